/- Of the proofs of YtbamklefagghcaaGreatDoor: Xb Xc Xd Xe Xf Xg Xx Xy, put together. -/
import Derived.Test.YtbamklefagghcaaGreatDoorO5
import Derived.Test.YtbamklefagghcaaGreatDoorO2
import Derived.Shelf.Strconv.ErrVarAll
import Derived.Lib.AtoiAllCases
import Derived.Lay
import Derived.LaidSub
import Derived.Lib.LaidTab
import Derived.Stop.LaidErr
import Derived.Deep.DeepHandedRow
import Derived.SevenTiedAt
import Derived.Test.YtbamklefagghcaaGreatDoorO1
import Derived.Test.YtbamklefagghcaaGreatDoorO3
import Derived.Test.YtbamklefagghcaaGreatDoorO4
namespace Go.Proofs.YtbamklefagghcaaGreatDoor
open Go.RowKit Go.PK
set_option linter.unusedVariables false
set_option linter.unusedSimpArgs false
theorem itoa_ok {n : Int} (h : in64 n) : okS (itoaS n) := okS_small (Nat.le_trans (itoaS_size h) (by decide))
theorem recT_sz {s n : Int} (h1 : in64 s) (h2 : in64 n) : (recT s n).size ≤ 43 := by
  have a := itoaS_size h1; have b := itoaS_size h2
  unfold recT; rw [ByteArray.size_append, ByteArray.size_append]
  have e : (⟨#[46]⟩ : ByteArray).size = 1 := rfl
  omega
theorem recT_ok {s n : Int} (h1 : in64 s) (h2 : in64 n) : okS (recT s n) := okS_small (Nat.le_trans (recT_sz h1 h2) (by decide))
set_option maxRecDepth 100000 in
theorem c_header (name : ByteArray) (w : World) (hok : okS name) :
    Calls Tryz.prog 35 #[.string name] w fun e w' => ∃ u, e = .returned (.agg #[.string (⟨#[85, 78, 72]⟩), u]) ∧ Later w w' ∧ sliceRd (tySlice tyStr) (fun b => w.heap.size ≤ b) w' u ([[⟨#[49]⟩], [name, ⟨#[68]⟩, ⟨#[57, 54, 65]⟩, ⟨#[85, 78]⟩]]) := by
  refine enter (vs := [.string name]) Tryz.func35 rfl Tryz.ntmps35 rfl ?_
  refine w_seq ?_
  refine rg_text ?_
  refine x_alloc rfl rfl rfl zr49 ?_
  intro p2
  refine x_end ?_
  refine t_norm ?_
  refine w_seq ?_
  refine rg_text ?_
  refine x_buildSliceL (cs := [Value.string (⟨#[49]⟩)]) rfl rfl rfl Tryz.underlying54 sz9 zr9 rfl rfl rfl ?_
  intro p3
  refine x_val rfl rfl rfl (v_move rfl) ?_
  refine x_buildSliceL (cs := [Value.string (name), Value.string (⟨#[68]⟩), Value.string (⟨#[57, 54, 65]⟩), Value.string (⟨#[85, 78]⟩)]) rfl rfl rfl Tryz.underlying54 sz9 zr9 rfl rfl rfl ?_
  intro p5
  refine x_buildSliceL (cs := [Value.slice (some ⟨p3, 0, none⟩) 1 1, .slice (some ⟨p5, 0, none⟩) 4 4]) rfl rfl rfl Tryz.underlying47 sz54 zr54 rfl rfl rfl ?_
  intro p6
  refine x_val rfl rfl rfl (v_buildL (places := [(0, 1), (1, 1)]) Tryz.underlying49 zr49 (by kernel_rfl) rfl rfl) ?_
  refine x_store0 [(p6, _), (p5, _), (p3, _)] rfl rfl rfl rfl sz49 rfl rfl ?_
  refine x_end ?_
  refine t_norm ?_
  refine w_ret ?_
  refine retc (cs := #[Value.string (⟨#[85, 78, 72]⟩), .slice (some ⟨p6, 0, none⟩) 2 2]) rfl rfl (by repeat (first | exact List.Mem.head _ | apply List.Mem.tail)) Tryz.underlying49 rfl sz49 (fun w' hm => ⟨_, rfl, hm.base (by simp), ?_⟩)
  exact (lits_new (T := tySlice tyStr) (e := 54) (b := p6) [[Value.slice (some ⟨p3, 0, none⟩) 1 1], [Value.slice (some ⟨p5, 0, none⟩) 4 4]] (xs := [[⟨#[49]⟩], [name, ⟨#[68]⟩, ⟨#[57, 54, 65]⟩, ⟨#[85, 78]⟩]]) hm (by simp) (by repeat (first | exact List.Mem.head _ | apply List.Mem.tail)) rfl (by simp) ⟨⟨_, rfl, (lits_new (T := tyStr) (e := 9) (b := p3) [[Value.string (⟨#[49]⟩)]] (xs := [⟨#[49]⟩]) hm (by simp) (by repeat (first | exact List.Mem.head _ | apply List.Mem.tail)) rfl (by simp) ⟨⟨rfl, (okS_small (by decide))⟩, trivial⟩)⟩, ⟨_, rfl, (lits_new (T := tyStr) (e := 9) (b := p5) [[Value.string (name)], [Value.string (⟨#[68]⟩)], [Value.string (⟨#[57, 54, 65]⟩)], [Value.string (⟨#[85, 78]⟩)]] (xs := [name, ⟨#[68]⟩, ⟨#[57, 54, 65]⟩, ⟨#[85, 78]⟩]) hm (by simp) (by repeat (first | exact List.Mem.head _ | apply List.Mem.tail)) rfl (by simp) ⟨⟨rfl, hok⟩, ⟨rfl, (okS_small (by decide))⟩, ⟨rfl, (okS_small (by decide))⟩, ⟨rfl, (okS_small (by decide))⟩, trivial⟩)⟩, trivial⟩)
set_option maxRecDepth 100000 in
theorem c_pair (tag x y : ByteArray) (w : World) (h1 : okS x) (h2 : okS y) :
    Calls Tryz.prog 38 #[.string tag, .string x, .string y] w fun e w' => ∃ u, e = .returned (.agg #[.string (tag), u]) ∧ Later w w' ∧ sliceRd (tySlice tyStr) (fun b => w.heap.size ≤ b) w' u ([[x, y]]) := by
  refine enter (vs := [.string tag, .string x, .string y]) Tryz.func38 rfl Tryz.ntmps38 rfl ?_
  refine w_seq ?_
  refine rg_text ?_
  refine x_alloc rfl rfl rfl zr49 ?_
  intro p6
  refine x_end ?_
  refine t_norm ?_
  refine w_seq ?_
  refine rg_text ?_
  refine x_val rfl rfl rfl (v_move rfl) ?_
  refine x_val rfl rfl rfl (v_move rfl) ?_
  refine x_val rfl rfl rfl (v_move rfl) ?_
  refine x_buildSliceL (cs := [Value.string (x), Value.string (y)]) rfl rfl rfl Tryz.underlying54 sz9 zr9 rfl rfl rfl ?_
  intro p10
  refine x_buildSliceL (cs := [Value.slice (some ⟨p10, 0, none⟩) 2 2]) rfl rfl rfl Tryz.underlying47 sz54 zr54 rfl rfl rfl ?_
  intro p11
  refine x_val rfl rfl rfl (v_buildL (places := [(0, 1), (1, 1)]) Tryz.underlying49 zr49 (by kernel_rfl) rfl rfl) ?_
  refine x_store0 [(p11, _), (p10, _)] rfl rfl rfl rfl sz49 rfl rfl ?_
  refine x_end ?_
  refine t_norm ?_
  refine w_ret ?_
  refine retc (cs := #[Value.string (tag), .slice (some ⟨p11, 0, none⟩) 1 1]) rfl rfl (by repeat (first | exact List.Mem.head _ | apply List.Mem.tail)) Tryz.underlying49 rfl sz49 (fun w' hm => ⟨_, rfl, hm.base (by simp), ?_⟩)
  exact (lits_new (T := tySlice tyStr) (e := 54) (b := p11) [[Value.slice (some ⟨p10, 0, none⟩) 2 2]] (xs := [[x, y]]) hm (by simp) (by repeat (first | exact List.Mem.head _ | apply List.Mem.tail)) rfl (by simp) ⟨⟨_, rfl, (lits_new (T := tyStr) (e := 9) (b := p10) [[Value.string (x)], [Value.string (y)]] (xs := [x, y]) hm (by simp) (by repeat (first | exact List.Mem.head _ | apply List.Mem.tail)) rfl (by simp) ⟨⟨rfl, h1⟩, ⟨rfl, h2⟩, trivial⟩)⟩, trivial⟩)
set_option maxRecDepth 100000 in
theorem c_one {v : Value} {es : List ByteArray} {D : Nat → Prop} (tag : ByteArray) (w : World) (hes : sliceRd tyStr D w v es) (hn : es.length ≤ 1000) :
    Calls Tryz.prog 36 #[.string tag, v] w fun e w' => ∃ u, e = .returned (.agg #[.string (tag), u]) ∧ Later w w' ∧ sliceRd (tySlice tyStr) (fun b => w.heap.size ≤ b) w' u (es.map fun e => [e]) := by
  obtain ⟨A, cp, rfl, hlc, hmx, _⟩ := id hes
  refine enter (vs := [.string tag, Value.slice A es.length cp]) Tryz.func36 rfl Tryz.ntmps36 rfl ?_
  refine w_seq ?_
  refine rg_text ?_
  refine x_alloc rfl rfl rfl zr49 ?_
  intro p4
  refine x_end ?_
  refine t_norm ?_
  refine w_seq ?_
  refine rg_text ?_
  refine x_val rfl rfl rfl (v_move rfl) ?_
  refine x_val rfl rfl rfl (v_buildL (places := [(0, 1), (1, 1)]) Tryz.underlying49 zr49 (by kernel_rfl) rfl rfl) ?_
  refine x_alloc rfl rfl rfl zr49 ?_
  intro p5
  refine x_store0 [] rfl rfl rfl rfl sz49 rfl rfl ?_
  refine x_end ?_
  refine t_norm ?_
  refine w_seq ?_
  refine w_seq ?_
  refine rg_text ?_
  refine x_val rfl rfl rfl (v_assign rfl) ?_
  refine x_end ?_
  refine t_norm ?_
  refine w_block ?_
  refine w_fix ((p5, Obj.cells [Value.string tag, rowV none (0)].toArray 49) :: (rowO 54 none ++ [(p4, Obj.cells [Value.string ⟨#[]⟩, .slice none 0 0].toArray 49)])) (List.Sublist.refl _) (fun w0 hm0 => ?_)
  refine w_loop (σ := Nat × RowS × World) (fun x => x.1 ≤ es.length ∧ RowT (tySlice tyStr) (newD w ((p5, Obj.cells [Value.string tag, rowV x.2.1 (x.1)].toArray 49) :: (rowO 54 x.2.1 ++ [(p4, Obj.cells [Value.string ⟨#[]⟩, .slice none 0 0].toArray 49)]))) x.2.2 x.2.1 ((es.take x.1).map fun e => [e])) (fun x => [(4, Value.pointer (some ⟨p4, 0, none⟩)), (5, Value.pointer (some ⟨p5, 0, none⟩)), (1, Value.slice A es.length cp), (6, Value.int .i64 (x.1 : Nat))]) (fun x => (p5, Obj.cells [Value.string tag, rowV x.2.1 (x.1)].toArray 49) :: (rowO 54 x.2.1 ++ [(p4, Obj.cells [Value.string ⟨#[]⟩, .slice none 0 0].toArray 49)])) (fun x => (x.2.2, notOwn ((p5, Obj.cells [Value.string tag, rowV x.2.1 (x.1)].toArray 49) :: (rowO 54 x.2.1 ++ [(p4, Obj.cells [Value.string ⟨#[]⟩, .slice none 0 0].toArray 49)]))) :: [(w, fun _ => True)]) (fun x => es.length - x.1) ((0, none, w0)) (⟨Nat.zero_le _, RowT.nil⟩) (l_start (by repeat (first | exact Sub.nil | refine Sub.cons rfl ?_)) (fun _ h => h)) ?_
  rintro ⟨k, R, ws⟩ ⟨hk, hT⟩
  refine w_state ([(4, Value.pointer (some ⟨p4, 0, none⟩)), (5, Value.pointer (some ⟨p5, 0, none⟩)), (1, Value.slice A es.length cp), (6, Value.int .i64 (k : Nat))]) ((p5, Obj.cells [Value.string tag, rowV R (k)].toArray 49) :: (rowO 54 R ++ [(p4, Obj.cells [Value.string ⟨#[]⟩, .slice none 0 0].toArray 49)])) ((ws, notOwn ((p5, Obj.cells [Value.string tag, rowV R (k)].toArray 49) :: (rowO 54 R ++ [(p4, Obj.cells [Value.string ⟨#[]⟩, .slice none 0 0].toArray 49)]))) :: [(w, fun _ => True)]) ?_
  dsimp only at hk hT
  have hln : ((es.take k).map fun e => [e]).length = k := by simp; omega
  refine w_seq ?_
  refine w_seq ?_
  refine rg_text ?_
  refine x_val rfl rfl rfl (v_move rfl) ?_
  refine x_val rfl rfl rfl (v_move rfl) ?_
  refine x_val rfl rfl rfl (v_len_slice Tryz.underlying54 rfl) ?_
  refine x_bool rfl rfl rfl (v_lss rfl rfl) ?_
  intro b12 hb12
  refine x_end ?_
  refine t_norm ?_
  refine w_cond rfl (fun hc12 => ?_) (fun hc12 => ?_)
  · simp only [hb12, decide_eq_true_eq, decide_eq_false_iff_not, Bool.and_eq_true, Bool.or_eq_true, Bool.and_eq_false_iff, Bool.or_eq_false_iff, Bool.not_eq_true', Bool.not_eq_false', ne_eq, Decidable.not_not] at hc12
    have hkl : k < es.length := by omega
    obtain ⟨b0, o0, hA0, _, hc0, hok0⟩ := s_at hes hkl
    refine w_skip ?_
    refine t_norm ?_
    refine w_seq ?_
    refine w_block ?_
    refine rg_inv ([(p5, Obj.cells [Value.string tag, rowV R (k)].toArray 49)]) 10 (.flt 0 (.flt 1 (.flt 2 (.flt 3 (.flt 4 (.flt 5 (.gr 6 (.gr 7 (.gr 8 (.flt 9 .done) .nil) .nil) .nil))))))) (.cons_cons _ (List.nil_sublist _)) (by kernel_rfl) (by kernel_rfl) ?_
    refine j_val rfl rfl (v_fieldAddr (off' := 1) Tryz.underlying49 rfl sz47 (by decide) rfl rfl) ?_
    refine j_val rfl rfl (v_load Tryz.underlying47 rfl rfl (at_ownL (vs := [Value.string tag, rowV R k]) (.head _) rfl)) ?_
    refine j_val rfl rfl (v_move rfl) ?_
    refine j_val rfl rfl (v_move rfl) ?_
    refine j_val rfl rfl (v_indexAddr Tryz.underlying54 sz9 (congrArg (fun A => some (Value.slice A es.length cp)) hA0) rfl (by first | omega | (dsimp only; omega)) rfl) ?_
    refine j_val rfl rfl (v_load Tryz.underlying9 rfl rfl (at_ro (List.mem_cons_of_mem _ (.head _)) trivial (by rw [Nat.mul_one]; exact hc0))) ?_
    refine j_gr ?_ j_nil
    refine x_buildSliceL (cs := [Value.string es[k]]) rfl rfl rfl Tryz.underlying54 sz9 zr9 rfl rfl rfl ?_
    intro p21
    refine x_end ?_
    refine j_end (.cons _ (.cons_cons _ (List.nil_sublist _))) ?_
    refine j_gr ?_ j_nil
    refine x_buildSliceL (cs := [Value.slice (some ⟨p21, 0, none⟩) 1 1]) rfl rfl rfl Tryz.underlying47 sz54 zr54 rfl rfl rfl ?_
    intro p22
    refine x_end ?_
    refine j_end (.cons _ (.cons _ (.cons_cons _ (List.nil_sublist _)))) ?_
    refine j_gr ?_ j_nil
    obtain ⟨css, hcl, hrow, hrd⟩ := hT
    rw [hln] at hcl hrow
    refine x_append (e := 54) [(p22, Obj.cells [Value.slice (some ⟨p21, 0, none⟩) 1 1].toArray 54), (p21, Obj.cells [Value.string es[k]].toArray 9), (p5, Obj.cells [Value.string tag, rowV R (k)].toArray 49)] (l2 := [(p4, Obj.cells [Value.string ⟨#[]⟩, .slice none 0 0].toArray 49)]) R (len := k) (xs := css.flatten) rfl rfl rfl rfl rfl hrow Tryz.underlying47 ap54 rfl rfl (m := 1) (news := [Value.slice (some ⟨p21, 0, none⟩) 1 1]) (fun i hi => at_ownL (vs := [Value.slice (some ⟨p21, 0, none⟩) 1 1]) (.head _) (by rw [Nat.zero_add]; exact List.getElem?_eq_getElem hi)) rfl (by simp only [maxLen]; omega) (by omega) ?_
    intro R' hR'
    refine x_end ?_
    refine j_end (.cons _ (.cons _ (.cons_cons _ (List.nil_sublist _)))) ?_
    refine j_val rfl rfl (v_fieldAddr (off' := 1) Tryz.underlying49 rfl sz47 (by decide) rfl rfl) ?_
    refine j_done ?_
    refine x_store (cs := [Value.string tag, rowV R k]) (off := 1) [(p22, Obj.cells [Value.slice (some ⟨p21, 0, none⟩) 1 1].toArray 54), (p21, Obj.cells [Value.string es[k]].toArray 9)] rfl rfl rfl rfl sz47 rfl (by show 2 ≤ 2; decide) ?_
    refine x_end ?_
    refine b_norm ?_
    refine t_norm ?_
    refine rg_text ?_
    refine x_val rfl rfl rfl (v_move rfl) ?_
    refine x_val rfl rfl rfl (v_addi rfl rfl rfl (by first | omega | (dsimp only; omega))) ?_
    refine x_val rfl rfl rfl (v_assign rfl) ?_
    refine x_end ?_
    have hsub : ((p5, Obj.cells [Value.string tag, rowV R' (k + 1)].toArray 49) :: (rowO 54 R' ++ [(p4, Obj.cells [Value.string ⟨#[]⟩, .slice none 0 0].toArray 49)])).Sublist ((p22, Obj.cells [Value.slice (some ⟨p21, 0, none⟩) 1 1].toArray 54) :: (p21, Obj.cells [Value.string es[k]].toArray 9) :: ((p5, Obj.cells [Value.string tag, rowV R' (k + 1)].toArray 49) :: (rowO 54 R' ++ [(p4, Obj.cells [Value.string ⟨#[]⟩, .slice none 0 0].toArray 49)]))) := (List.sublist_cons_self _ _).trans (List.sublist_cons_self _ _)
    refine s_fix ((p5, Obj.cells [Value.string tag, rowV R' (k + 1)].toArray 49) :: (rowO 54 R' ++ [(p4, Obj.cells [Value.string ⟨#[]⟩, .slice none 0 0].toArray 49)])) hsub (fun w0 hm0 => ?_)
    have i1 : sliceRd tyStr (newD w ((p5, Obj.cells [Value.string tag, rowV R' (k + 1)].toArray 49) :: (rowO 54 R' ++ [(p4, Obj.cells [Value.string ⟨#[]⟩, .slice none 0 0].toArray 49)]))) w0 (.slice (some ⟨p21, 0, none⟩) 1 1) [es[k]] := lits_own (e := 9) [[Value.string es[k]]] hm0 (.tail _ (.head _)) rfl (by simp) ⟨hm0.newer (p := (p21, Obj.cells [Value.string es[k]].toArray 9)) (by simp) (.tail _ (.head _)), hm0.notIn (l1 := [(p22, Obj.cells [Value.slice (some ⟨p21, 0, none⟩) 1 1].toArray 54), (p21, Obj.cells [Value.string es[k]].toArray 9)]) (List.Sublist.refl _) (.tail _ (.head _))⟩ ⟨⟨rfl, hok0⟩, trivial⟩
    have hT' := snocN (T := tySlice tyStr) (D := newD w ((p5, Obj.cells [Value.string tag, rowV R' (k + 1)].toArray 49) :: (rowO 54 R' ++ [(p4, Obj.cells [Value.string ⟨#[]⟩, .slice none 0 0].toArray 49)]))) (ws := w0) (x := [es[k]]) hln hcl (fun j h1 h2 => (tySlice tyStr).keep (hrd j h1 h2) (Kept.frz hm0 hsub (by simp))) hR' ⟨_, rfl, i1⟩
    exact l_norm (x := (k, R, ws)) (μ := fun q : Nat × RowS × World => es.length - q.1) (k + 1, R', w0) ⟨by dsimp only; omega, by dsimp only; rw [List.take_succ_eq_append_getElem hkl, List.map_append]; exact hT'⟩ (by simp only; omega) (by repeat (first | exact Sub.nil | refine Sub.cons rfl ?_)) (fun w1 h => h.less (List.Sublist.refl _) (fun q hq => by simp at hq ⊢; rcases hq with h | h; (· exact .inl h); simp [h]))
  · simp only [hb12, decide_eq_true_eq, decide_eq_false_iff_not, Bool.and_eq_true, Bool.or_eq_true, Bool.and_eq_false_iff, Bool.or_eq_false_iff, Bool.not_eq_true', Bool.not_eq_false', ne_eq, Decidable.not_not] at hc12
    obtain rfl : k = es.length := by omega
    rw [List.take_length] at hT hln
    refine w_exit ?_
    refine t_exit ?_
    refine t_exit ?_
    refine b_hit ?_
    refine t_norm ?_
    refine w_seq ?_
    refine rg_text ?_
    refine x_val rfl rfl rfl (v_load_blk (e := 49) (fz := (0, 0)) (cs := [Value.string tag, rowV R es.length].toArray) Tryz.underlying49 rfl rfl (.head _) sz49) ?_
    refine x_store0 ((p5, Obj.cells [Value.string tag, rowV R (es.length)].toArray 49) :: rowO 54 R) rfl rfl rfl rfl sz49 rfl rfl ?_
    refine x_end ?_
    refine t_norm ?_
    refine w_ret ?_
    refine retc rfl rfl (List.mem_cons_of_mem _ (List.mem_append_right _ (.head _))) Tryz.underlying49 rfl sz49 (fun w' hm => ⟨_, rfl, hm.base (by simp), ?_⟩)
    exact (hT.keep (Kept.frz hm (List.Sublist.refl _) (.head _))).rd (e := 54) hm (fun q hq => List.mem_cons_of_mem _ (List.mem_append_left _ hq)) (fun _ h => h.1) (fun q hq => hm.newer (by simp) (List.mem_cons_of_mem _ (List.mem_append_left _ hq))) hln.symm
set_option maxRecDepth 100000 in
theorem c_line (n : Int) (r : Int × Int) (w : World) (hn : 0 ≤ n ∧ in64 n) (h1 : 0 ≤ r.1 ∧ in64 r.1) (h2 : 0 ≤ r.2 ∧ in64 r.2) :
    Calls Tryz.prog 37 #[.int .i64 n, .agg #[.int .i64 r.1, .int .i64 r.2]] w fun e w' => ∃ u, e = .returned (.agg #[.string (⟨#[76, 73, 78]⟩), u]) ∧ Later w w' ∧ sliceRd (tySlice tyStr) (fun b => w.heap.size ≤ b) w' u ([[itoaS n], [⟨#[]⟩], [recT r.1 r.2, ⟨#[83, 82, 86]⟩]]) := by
  refine enter (vs := [.int .i64 n, .agg #[.int .i64 r.1, .int .i64 r.2]]) Tryz.func37 rfl Tryz.ntmps37 rfl ?_
  refine w_seq ?_
  refine rg_text ?_
  refine x_box rfl rfl rfl rfl ?_
  intro p3
  refine x_alloc rfl rfl rfl zr49 ?_
  intro p4
  refine x_end ?_
  refine t_norm ?_
  refine w_seq ?_
  refine rg_tree 15 (.flt 0 (.flt 1 (.flt 4 (.flt 5 (.flt 6 (.flt 7 (.flt 8 (.flt 9 (.flt 10 (.flt 11 (.gr 2 (.gr 3 (.gr 12 (.gr 13 (.flt 14 .done) .nil) .nil) (.gr 12 (.gr 3 (.gr 13 (.flt 14 .done) .nil) .nil) .nil)) (.gr 3 (.gr 2 (.gr 12 (.gr 13 (.flt 14 .done) .nil) .nil) (.gr 12 (.gr 2 (.gr 13 (.flt 14 .done) .nil) .nil) .nil)) (.gr 12 (.gr 2 (.gr 3 (.gr 13 (.flt 14 .done) .nil) .nil) (.gr 3 (.gr 2 (.gr 13 (.flt 14 .done) .nil) .nil) .nil)) .nil))))))))))))) (by kernel_rfl) (by kernel_rfl) ?_
  refine t_flt (Q := fun _ _ _ => False) ?_
  refine x_val rfl rfl rfl (v_move rfl) ?_
  refine x_end ?_
  refine t_flt (Q := fun _ _ _ => False) ?_
  refine x_callv rfl rfl rfl Tryz.func21 (by kernel_rfl) rfl (fun w1 hw1 => c_Dec n w1 hn.1 hn.2) ?_
  refine x_end ?_
  refine t_flt (Q := fun _ _ _ => False) ?_
  refine x_val rfl rfl rfl (v_fieldAddr (off' := 0) Tryz.underlying23 rfl sz3 (by decide) rfl rfl) ?_
  refine x_end ?_
  refine t_flt (Q := fun _ _ _ => False) ?_
  refine x_val rfl rfl rfl (v_load Tryz.underlying3 rfl rfl (at_ownL (vs := [Value.int .i64 r.1, .int .i64 r.2]) (by repeat (first | exact List.Mem.head _ | apply List.Mem.tail)) rfl)) ?_
  refine x_end ?_
  refine t_flt (Q := fun _ _ _ => False) ?_
  refine x_callv rfl rfl rfl Tryz.func21 (by kernel_rfl) rfl (fun w1 hw1 => c_Dec r.1 w1 h1.1 h1.2) ?_
  refine x_end ?_
  refine t_flt (Q := fun _ _ _ => False) ?_
  refine x_val rfl rfl rfl (v_sadd rfl rfl (by have := itoaS_size h1.2; show _ + 1 ≤ _; omega)) ?_
  refine x_end ?_
  refine t_flt (Q := fun _ _ _ => False) ?_
  refine x_val rfl rfl rfl (v_fieldAddr (off' := 1) Tryz.underlying23 rfl sz3 (by decide) rfl rfl) ?_
  refine x_end ?_
  refine t_flt (Q := fun _ _ _ => False) ?_
  refine x_val rfl rfl rfl (v_load Tryz.underlying3 rfl rfl (at_ownL (vs := [Value.int .i64 r.1, .int .i64 r.2]) (by repeat (first | exact List.Mem.head _ | apply List.Mem.tail)) rfl)) ?_
  refine x_end ?_
  refine t_flt (Q := fun _ _ _ => False) ?_
  refine x_callv rfl rfl rfl Tryz.func21 (by kernel_rfl) rfl (fun w1 hw1 => c_Dec r.2 w1 h2.1 h2.2) ?_
  refine x_end ?_
  refine t_flt (Q := fun _ _ _ => False) ?_
  refine x_val rfl rfl rfl (v_sadd rfl rfl (by have := itoaS_size h1.2; have := itoaS_size h2.2; rw [ByteArray.size_append]; show (_ + 1) + _ ≤ _; omega)) ?_
  refine x_end ?_
  refine t_gr (Q := fun _ _ _ => False) ?_ ?_
  · refine x_buildSliceL (cs := [Value.string (itoaS n)]) rfl rfl rfl Tryz.underlying54 sz9 zr9 rfl rfl rfl ?_
    intro p7
    refine x_end ?_
    refine t_gr (Q := fun _ _ _ => False) ?_ ?_
    · refine x_buildSliceL (cs := [Value.string (⟨#[]⟩)]) rfl rfl rfl Tryz.underlying54 sz9 zr9 rfl rfl rfl ?_
      intro p8
      refine x_end ?_
      refine t_gr (Q := fun _ _ _ => False) ?_ t_nil
      refine x_buildSliceL (cs := [Value.string (recT r.1 r.2), Value.string (⟨#[83, 82, 86]⟩)]) rfl rfl rfl Tryz.underlying54 sz9 zr9 rfl rfl rfl ?_
      intro p17
      refine x_end ?_
      refine t_gr (Q := fun _ _ _ => False) ?_ t_nil
      refine x_buildSliceL (cs := [Value.slice (some ⟨p7, 0, none⟩) 1 1, .slice (some ⟨p8, 0, none⟩) 1 1, .slice (some ⟨p17, 0, none⟩) 2 2]) rfl rfl rfl Tryz.underlying47 sz54 zr54 rfl rfl rfl ?_
      intro p18
      refine x_end ?_
      refine t_flt (Q := fun _ _ _ => False) ?_
      refine x_val rfl rfl rfl (v_buildL (places := [(0, 1), (1, 1)]) Tryz.underlying49 zr49 (by kernel_rfl) rfl rfl) ?_
      refine x_end ?_
      refine t_done ?_
      first
      | refine x_store0 (cs := #[Value.string ⟨#[]⟩, .slice none 0 0]) (e := 49) [(p18, _), (p7, _), (p8, _), (p17, _)] rfl rfl rfl rfl sz49 rfl rfl ?_
      | refine x_store0 (cs := #[Value.string ⟨#[]⟩, .slice none 0 0]) (e := 49) [(p18, _), (p7, _), (p17, _), (p8, _)] rfl rfl rfl rfl sz49 rfl rfl ?_
      | refine x_store0 (cs := #[Value.string ⟨#[]⟩, .slice none 0 0]) (e := 49) [(p18, _), (p8, _), (p7, _), (p17, _)] rfl rfl rfl rfl sz49 rfl rfl ?_
      | refine x_store0 (cs := #[Value.string ⟨#[]⟩, .slice none 0 0]) (e := 49) [(p18, _), (p8, _), (p17, _), (p7, _)] rfl rfl rfl rfl sz49 rfl rfl ?_
      | refine x_store0 (cs := #[Value.string ⟨#[]⟩, .slice none 0 0]) (e := 49) [(p18, _), (p17, _), (p7, _), (p8, _)] rfl rfl rfl rfl sz49 rfl rfl ?_
      | refine x_store0 (cs := #[Value.string ⟨#[]⟩, .slice none 0 0]) (e := 49) [(p18, _), (p17, _), (p8, _), (p7, _)] rfl rfl rfl rfl sz49 rfl rfl ?_
      refine x_end ?_
      refine t_norm ?_
      refine w_ret ?_
      refine retc (cs := #[Value.string (⟨#[76, 73, 78]⟩), .slice (some ⟨p18, 0, none⟩) 3 3]) rfl rfl (by repeat (first | exact List.Mem.head _ | apply List.Mem.tail)) Tryz.underlying49 rfl sz49 (fun w' hm => ⟨_, rfl, hm.base (by simp), ?_⟩)
      exact (lits_new (T := tySlice tyStr) (e := 54) (b := p18) [[Value.slice (some ⟨p7, 0, none⟩) 1 1], [Value.slice (some ⟨p8, 0, none⟩) 1 1], [Value.slice (some ⟨p17, 0, none⟩) 2 2]] (xs := [[itoaS n], [⟨#[]⟩], [recT r.1 r.2, ⟨#[83, 82, 86]⟩]]) hm (by simp) (by repeat (first | exact List.Mem.head _ | apply List.Mem.tail)) rfl (by simp) ⟨⟨_, rfl, (lits_new (T := tyStr) (e := 9) (b := p7) [[Value.string (itoaS n)]] (xs := [itoaS n]) hm (by simp) (by repeat (first | exact List.Mem.head _ | apply List.Mem.tail)) rfl (by simp) ⟨⟨rfl, itoa_ok hn.2⟩, trivial⟩)⟩, ⟨_, rfl, (lits_new (T := tyStr) (e := 9) (b := p8) [[Value.string (⟨#[]⟩)]] (xs := [⟨#[]⟩]) hm (by simp) (by repeat (first | exact List.Mem.head _ | apply List.Mem.tail)) rfl (by simp) ⟨⟨rfl, (okS_small (by decide))⟩, trivial⟩)⟩, ⟨_, rfl, (lits_new (T := tyStr) (e := 9) (b := p17) [[Value.string (recT r.1 r.2)], [Value.string (⟨#[83, 82, 86]⟩)]] (xs := [recT r.1 r.2, ⟨#[83, 82, 86]⟩]) hm (by simp) (by repeat (first | exact List.Mem.head _ | apply List.Mem.tail)) rfl (by simp) ⟨⟨rfl, recT_ok h1.2 h2.2⟩, ⟨rfl, (okS_small (by decide))⟩, trivial⟩)⟩, trivial⟩)
    refine t_gr (Q := fun _ _ _ => False) ?_ t_nil
    refine x_buildSliceL (cs := [Value.string (recT r.1 r.2), Value.string (⟨#[83, 82, 86]⟩)]) rfl rfl rfl Tryz.underlying54 sz9 zr9 rfl rfl rfl ?_
    intro p17
    refine x_end ?_
    refine t_gr (Q := fun _ _ _ => False) ?_ t_nil
    refine x_buildSliceL (cs := [Value.string (⟨#[]⟩)]) rfl rfl rfl Tryz.underlying54 sz9 zr9 rfl rfl rfl ?_
    intro p8
    refine x_end ?_
    refine t_gr (Q := fun _ _ _ => False) ?_ t_nil
    refine x_buildSliceL (cs := [Value.slice (some ⟨p7, 0, none⟩) 1 1, .slice (some ⟨p8, 0, none⟩) 1 1, .slice (some ⟨p17, 0, none⟩) 2 2]) rfl rfl rfl Tryz.underlying47 sz54 zr54 rfl rfl rfl ?_
    intro p18
    refine x_end ?_
    refine t_flt (Q := fun _ _ _ => False) ?_
    refine x_val rfl rfl rfl (v_buildL (places := [(0, 1), (1, 1)]) Tryz.underlying49 zr49 (by kernel_rfl) rfl rfl) ?_
    refine x_end ?_
    refine t_done ?_
    first
    | refine x_store0 (cs := #[Value.string ⟨#[]⟩, .slice none 0 0]) (e := 49) [(p18, _), (p7, _), (p8, _), (p17, _)] rfl rfl rfl rfl sz49 rfl rfl ?_
    | refine x_store0 (cs := #[Value.string ⟨#[]⟩, .slice none 0 0]) (e := 49) [(p18, _), (p7, _), (p17, _), (p8, _)] rfl rfl rfl rfl sz49 rfl rfl ?_
    | refine x_store0 (cs := #[Value.string ⟨#[]⟩, .slice none 0 0]) (e := 49) [(p18, _), (p8, _), (p7, _), (p17, _)] rfl rfl rfl rfl sz49 rfl rfl ?_
    | refine x_store0 (cs := #[Value.string ⟨#[]⟩, .slice none 0 0]) (e := 49) [(p18, _), (p8, _), (p17, _), (p7, _)] rfl rfl rfl rfl sz49 rfl rfl ?_
    | refine x_store0 (cs := #[Value.string ⟨#[]⟩, .slice none 0 0]) (e := 49) [(p18, _), (p17, _), (p7, _), (p8, _)] rfl rfl rfl rfl sz49 rfl rfl ?_
    | refine x_store0 (cs := #[Value.string ⟨#[]⟩, .slice none 0 0]) (e := 49) [(p18, _), (p17, _), (p8, _), (p7, _)] rfl rfl rfl rfl sz49 rfl rfl ?_
    refine x_end ?_
    refine t_norm ?_
    refine w_ret ?_
    refine retc (cs := #[Value.string (⟨#[76, 73, 78]⟩), .slice (some ⟨p18, 0, none⟩) 3 3]) rfl rfl (by repeat (first | exact List.Mem.head _ | apply List.Mem.tail)) Tryz.underlying49 rfl sz49 (fun w' hm => ⟨_, rfl, hm.base (by simp), ?_⟩)
    exact (lits_new (T := tySlice tyStr) (e := 54) (b := p18) [[Value.slice (some ⟨p7, 0, none⟩) 1 1], [Value.slice (some ⟨p8, 0, none⟩) 1 1], [Value.slice (some ⟨p17, 0, none⟩) 2 2]] (xs := [[itoaS n], [⟨#[]⟩], [recT r.1 r.2, ⟨#[83, 82, 86]⟩]]) hm (by simp) (by repeat (first | exact List.Mem.head _ | apply List.Mem.tail)) rfl (by simp) ⟨⟨_, rfl, (lits_new (T := tyStr) (e := 9) (b := p7) [[Value.string (itoaS n)]] (xs := [itoaS n]) hm (by simp) (by repeat (first | exact List.Mem.head _ | apply List.Mem.tail)) rfl (by simp) ⟨⟨rfl, itoa_ok hn.2⟩, trivial⟩)⟩, ⟨_, rfl, (lits_new (T := tyStr) (e := 9) (b := p8) [[Value.string (⟨#[]⟩)]] (xs := [⟨#[]⟩]) hm (by simp) (by repeat (first | exact List.Mem.head _ | apply List.Mem.tail)) rfl (by simp) ⟨⟨rfl, (okS_small (by decide))⟩, trivial⟩)⟩, ⟨_, rfl, (lits_new (T := tyStr) (e := 9) (b := p17) [[Value.string (recT r.1 r.2)], [Value.string (⟨#[83, 82, 86]⟩)]] (xs := [recT r.1 r.2, ⟨#[83, 82, 86]⟩]) hm (by simp) (by repeat (first | exact List.Mem.head _ | apply List.Mem.tail)) rfl (by simp) ⟨⟨rfl, recT_ok h1.2 h2.2⟩, ⟨rfl, (okS_small (by decide))⟩, trivial⟩)⟩, trivial⟩)
  refine t_gr (Q := fun _ _ _ => False) ?_ ?_
  · refine x_buildSliceL (cs := [Value.string (⟨#[]⟩)]) rfl rfl rfl Tryz.underlying54 sz9 zr9 rfl rfl rfl ?_
    intro p8
    refine x_end ?_
    refine t_gr (Q := fun _ _ _ => False) ?_ ?_
    · refine x_buildSliceL (cs := [Value.string (itoaS n)]) rfl rfl rfl Tryz.underlying54 sz9 zr9 rfl rfl rfl ?_
      intro p7
      refine x_end ?_
      refine t_gr (Q := fun _ _ _ => False) ?_ t_nil
      refine x_buildSliceL (cs := [Value.string (recT r.1 r.2), Value.string (⟨#[83, 82, 86]⟩)]) rfl rfl rfl Tryz.underlying54 sz9 zr9 rfl rfl rfl ?_
      intro p17
      refine x_end ?_
      refine t_gr (Q := fun _ _ _ => False) ?_ t_nil
      refine x_buildSliceL (cs := [Value.slice (some ⟨p7, 0, none⟩) 1 1, .slice (some ⟨p8, 0, none⟩) 1 1, .slice (some ⟨p17, 0, none⟩) 2 2]) rfl rfl rfl Tryz.underlying47 sz54 zr54 rfl rfl rfl ?_
      intro p18
      refine x_end ?_
      refine t_flt (Q := fun _ _ _ => False) ?_
      refine x_val rfl rfl rfl (v_buildL (places := [(0, 1), (1, 1)]) Tryz.underlying49 zr49 (by kernel_rfl) rfl rfl) ?_
      refine x_end ?_
      refine t_done ?_
      first
      | refine x_store0 (cs := #[Value.string ⟨#[]⟩, .slice none 0 0]) (e := 49) [(p18, _), (p7, _), (p8, _), (p17, _)] rfl rfl rfl rfl sz49 rfl rfl ?_
      | refine x_store0 (cs := #[Value.string ⟨#[]⟩, .slice none 0 0]) (e := 49) [(p18, _), (p7, _), (p17, _), (p8, _)] rfl rfl rfl rfl sz49 rfl rfl ?_
      | refine x_store0 (cs := #[Value.string ⟨#[]⟩, .slice none 0 0]) (e := 49) [(p18, _), (p8, _), (p7, _), (p17, _)] rfl rfl rfl rfl sz49 rfl rfl ?_
      | refine x_store0 (cs := #[Value.string ⟨#[]⟩, .slice none 0 0]) (e := 49) [(p18, _), (p8, _), (p17, _), (p7, _)] rfl rfl rfl rfl sz49 rfl rfl ?_
      | refine x_store0 (cs := #[Value.string ⟨#[]⟩, .slice none 0 0]) (e := 49) [(p18, _), (p17, _), (p7, _), (p8, _)] rfl rfl rfl rfl sz49 rfl rfl ?_
      | refine x_store0 (cs := #[Value.string ⟨#[]⟩, .slice none 0 0]) (e := 49) [(p18, _), (p17, _), (p8, _), (p7, _)] rfl rfl rfl rfl sz49 rfl rfl ?_
      refine x_end ?_
      refine t_norm ?_
      refine w_ret ?_
      refine retc (cs := #[Value.string (⟨#[76, 73, 78]⟩), .slice (some ⟨p18, 0, none⟩) 3 3]) rfl rfl (by repeat (first | exact List.Mem.head _ | apply List.Mem.tail)) Tryz.underlying49 rfl sz49 (fun w' hm => ⟨_, rfl, hm.base (by simp), ?_⟩)
      exact (lits_new (T := tySlice tyStr) (e := 54) (b := p18) [[Value.slice (some ⟨p7, 0, none⟩) 1 1], [Value.slice (some ⟨p8, 0, none⟩) 1 1], [Value.slice (some ⟨p17, 0, none⟩) 2 2]] (xs := [[itoaS n], [⟨#[]⟩], [recT r.1 r.2, ⟨#[83, 82, 86]⟩]]) hm (by simp) (by repeat (first | exact List.Mem.head _ | apply List.Mem.tail)) rfl (by simp) ⟨⟨_, rfl, (lits_new (T := tyStr) (e := 9) (b := p7) [[Value.string (itoaS n)]] (xs := [itoaS n]) hm (by simp) (by repeat (first | exact List.Mem.head _ | apply List.Mem.tail)) rfl (by simp) ⟨⟨rfl, itoa_ok hn.2⟩, trivial⟩)⟩, ⟨_, rfl, (lits_new (T := tyStr) (e := 9) (b := p8) [[Value.string (⟨#[]⟩)]] (xs := [⟨#[]⟩]) hm (by simp) (by repeat (first | exact List.Mem.head _ | apply List.Mem.tail)) rfl (by simp) ⟨⟨rfl, (okS_small (by decide))⟩, trivial⟩)⟩, ⟨_, rfl, (lits_new (T := tyStr) (e := 9) (b := p17) [[Value.string (recT r.1 r.2)], [Value.string (⟨#[83, 82, 86]⟩)]] (xs := [recT r.1 r.2, ⟨#[83, 82, 86]⟩]) hm (by simp) (by repeat (first | exact List.Mem.head _ | apply List.Mem.tail)) rfl (by simp) ⟨⟨rfl, recT_ok h1.2 h2.2⟩, ⟨rfl, (okS_small (by decide))⟩, trivial⟩)⟩, trivial⟩)
    refine t_gr (Q := fun _ _ _ => False) ?_ t_nil
    refine x_buildSliceL (cs := [Value.string (recT r.1 r.2), Value.string (⟨#[83, 82, 86]⟩)]) rfl rfl rfl Tryz.underlying54 sz9 zr9 rfl rfl rfl ?_
    intro p17
    refine x_end ?_
    refine t_gr (Q := fun _ _ _ => False) ?_ t_nil
    refine x_buildSliceL (cs := [Value.string (itoaS n)]) rfl rfl rfl Tryz.underlying54 sz9 zr9 rfl rfl rfl ?_
    intro p7
    refine x_end ?_
    refine t_gr (Q := fun _ _ _ => False) ?_ t_nil
    refine x_buildSliceL (cs := [Value.slice (some ⟨p7, 0, none⟩) 1 1, .slice (some ⟨p8, 0, none⟩) 1 1, .slice (some ⟨p17, 0, none⟩) 2 2]) rfl rfl rfl Tryz.underlying47 sz54 zr54 rfl rfl rfl ?_
    intro p18
    refine x_end ?_
    refine t_flt (Q := fun _ _ _ => False) ?_
    refine x_val rfl rfl rfl (v_buildL (places := [(0, 1), (1, 1)]) Tryz.underlying49 zr49 (by kernel_rfl) rfl rfl) ?_
    refine x_end ?_
    refine t_done ?_
    first
    | refine x_store0 (cs := #[Value.string ⟨#[]⟩, .slice none 0 0]) (e := 49) [(p18, _), (p7, _), (p8, _), (p17, _)] rfl rfl rfl rfl sz49 rfl rfl ?_
    | refine x_store0 (cs := #[Value.string ⟨#[]⟩, .slice none 0 0]) (e := 49) [(p18, _), (p7, _), (p17, _), (p8, _)] rfl rfl rfl rfl sz49 rfl rfl ?_
    | refine x_store0 (cs := #[Value.string ⟨#[]⟩, .slice none 0 0]) (e := 49) [(p18, _), (p8, _), (p7, _), (p17, _)] rfl rfl rfl rfl sz49 rfl rfl ?_
    | refine x_store0 (cs := #[Value.string ⟨#[]⟩, .slice none 0 0]) (e := 49) [(p18, _), (p8, _), (p17, _), (p7, _)] rfl rfl rfl rfl sz49 rfl rfl ?_
    | refine x_store0 (cs := #[Value.string ⟨#[]⟩, .slice none 0 0]) (e := 49) [(p18, _), (p17, _), (p7, _), (p8, _)] rfl rfl rfl rfl sz49 rfl rfl ?_
    | refine x_store0 (cs := #[Value.string ⟨#[]⟩, .slice none 0 0]) (e := 49) [(p18, _), (p17, _), (p8, _), (p7, _)] rfl rfl rfl rfl sz49 rfl rfl ?_
    refine x_end ?_
    refine t_norm ?_
    refine w_ret ?_
    refine retc (cs := #[Value.string (⟨#[76, 73, 78]⟩), .slice (some ⟨p18, 0, none⟩) 3 3]) rfl rfl (by repeat (first | exact List.Mem.head _ | apply List.Mem.tail)) Tryz.underlying49 rfl sz49 (fun w' hm => ⟨_, rfl, hm.base (by simp), ?_⟩)
    exact (lits_new (T := tySlice tyStr) (e := 54) (b := p18) [[Value.slice (some ⟨p7, 0, none⟩) 1 1], [Value.slice (some ⟨p8, 0, none⟩) 1 1], [Value.slice (some ⟨p17, 0, none⟩) 2 2]] (xs := [[itoaS n], [⟨#[]⟩], [recT r.1 r.2, ⟨#[83, 82, 86]⟩]]) hm (by simp) (by repeat (first | exact List.Mem.head _ | apply List.Mem.tail)) rfl (by simp) ⟨⟨_, rfl, (lits_new (T := tyStr) (e := 9) (b := p7) [[Value.string (itoaS n)]] (xs := [itoaS n]) hm (by simp) (by repeat (first | exact List.Mem.head _ | apply List.Mem.tail)) rfl (by simp) ⟨⟨rfl, itoa_ok hn.2⟩, trivial⟩)⟩, ⟨_, rfl, (lits_new (T := tyStr) (e := 9) (b := p8) [[Value.string (⟨#[]⟩)]] (xs := [⟨#[]⟩]) hm (by simp) (by repeat (first | exact List.Mem.head _ | apply List.Mem.tail)) rfl (by simp) ⟨⟨rfl, (okS_small (by decide))⟩, trivial⟩)⟩, ⟨_, rfl, (lits_new (T := tyStr) (e := 9) (b := p17) [[Value.string (recT r.1 r.2)], [Value.string (⟨#[83, 82, 86]⟩)]] (xs := [recT r.1 r.2, ⟨#[83, 82, 86]⟩]) hm (by simp) (by repeat (first | exact List.Mem.head _ | apply List.Mem.tail)) rfl (by simp) ⟨⟨rfl, recT_ok h1.2 h2.2⟩, ⟨rfl, (okS_small (by decide))⟩, trivial⟩)⟩, trivial⟩)
  refine t_gr (Q := fun _ _ _ => False) ?_ t_nil
  refine x_buildSliceL (cs := [Value.string (recT r.1 r.2), Value.string (⟨#[83, 82, 86]⟩)]) rfl rfl rfl Tryz.underlying54 sz9 zr9 rfl rfl rfl ?_
  intro p17
  refine x_end ?_
  refine t_gr (Q := fun _ _ _ => False) ?_ ?_
  · refine x_buildSliceL (cs := [Value.string (itoaS n)]) rfl rfl rfl Tryz.underlying54 sz9 zr9 rfl rfl rfl ?_
    intro p7
    refine x_end ?_
    refine t_gr (Q := fun _ _ _ => False) ?_ t_nil
    refine x_buildSliceL (cs := [Value.string (⟨#[]⟩)]) rfl rfl rfl Tryz.underlying54 sz9 zr9 rfl rfl rfl ?_
    intro p8
    refine x_end ?_
    refine t_gr (Q := fun _ _ _ => False) ?_ t_nil
    refine x_buildSliceL (cs := [Value.slice (some ⟨p7, 0, none⟩) 1 1, .slice (some ⟨p8, 0, none⟩) 1 1, .slice (some ⟨p17, 0, none⟩) 2 2]) rfl rfl rfl Tryz.underlying47 sz54 zr54 rfl rfl rfl ?_
    intro p18
    refine x_end ?_
    refine t_flt (Q := fun _ _ _ => False) ?_
    refine x_val rfl rfl rfl (v_buildL (places := [(0, 1), (1, 1)]) Tryz.underlying49 zr49 (by kernel_rfl) rfl rfl) ?_
    refine x_end ?_
    refine t_done ?_
    first
    | refine x_store0 (cs := #[Value.string ⟨#[]⟩, .slice none 0 0]) (e := 49) [(p18, _), (p7, _), (p8, _), (p17, _)] rfl rfl rfl rfl sz49 rfl rfl ?_
    | refine x_store0 (cs := #[Value.string ⟨#[]⟩, .slice none 0 0]) (e := 49) [(p18, _), (p7, _), (p17, _), (p8, _)] rfl rfl rfl rfl sz49 rfl rfl ?_
    | refine x_store0 (cs := #[Value.string ⟨#[]⟩, .slice none 0 0]) (e := 49) [(p18, _), (p8, _), (p7, _), (p17, _)] rfl rfl rfl rfl sz49 rfl rfl ?_
    | refine x_store0 (cs := #[Value.string ⟨#[]⟩, .slice none 0 0]) (e := 49) [(p18, _), (p8, _), (p17, _), (p7, _)] rfl rfl rfl rfl sz49 rfl rfl ?_
    | refine x_store0 (cs := #[Value.string ⟨#[]⟩, .slice none 0 0]) (e := 49) [(p18, _), (p17, _), (p7, _), (p8, _)] rfl rfl rfl rfl sz49 rfl rfl ?_
    | refine x_store0 (cs := #[Value.string ⟨#[]⟩, .slice none 0 0]) (e := 49) [(p18, _), (p17, _), (p8, _), (p7, _)] rfl rfl rfl rfl sz49 rfl rfl ?_
    refine x_end ?_
    refine t_norm ?_
    refine w_ret ?_
    refine retc (cs := #[Value.string (⟨#[76, 73, 78]⟩), .slice (some ⟨p18, 0, none⟩) 3 3]) rfl rfl (by repeat (first | exact List.Mem.head _ | apply List.Mem.tail)) Tryz.underlying49 rfl sz49 (fun w' hm => ⟨_, rfl, hm.base (by simp), ?_⟩)
    exact (lits_new (T := tySlice tyStr) (e := 54) (b := p18) [[Value.slice (some ⟨p7, 0, none⟩) 1 1], [Value.slice (some ⟨p8, 0, none⟩) 1 1], [Value.slice (some ⟨p17, 0, none⟩) 2 2]] (xs := [[itoaS n], [⟨#[]⟩], [recT r.1 r.2, ⟨#[83, 82, 86]⟩]]) hm (by simp) (by repeat (first | exact List.Mem.head _ | apply List.Mem.tail)) rfl (by simp) ⟨⟨_, rfl, (lits_new (T := tyStr) (e := 9) (b := p7) [[Value.string (itoaS n)]] (xs := [itoaS n]) hm (by simp) (by repeat (first | exact List.Mem.head _ | apply List.Mem.tail)) rfl (by simp) ⟨⟨rfl, itoa_ok hn.2⟩, trivial⟩)⟩, ⟨_, rfl, (lits_new (T := tyStr) (e := 9) (b := p8) [[Value.string (⟨#[]⟩)]] (xs := [⟨#[]⟩]) hm (by simp) (by repeat (first | exact List.Mem.head _ | apply List.Mem.tail)) rfl (by simp) ⟨⟨rfl, (okS_small (by decide))⟩, trivial⟩)⟩, ⟨_, rfl, (lits_new (T := tyStr) (e := 9) (b := p17) [[Value.string (recT r.1 r.2)], [Value.string (⟨#[83, 82, 86]⟩)]] (xs := [recT r.1 r.2, ⟨#[83, 82, 86]⟩]) hm (by simp) (by repeat (first | exact List.Mem.head _ | apply List.Mem.tail)) rfl (by simp) ⟨⟨rfl, recT_ok h1.2 h2.2⟩, ⟨rfl, (okS_small (by decide))⟩, trivial⟩)⟩, trivial⟩)
  refine t_gr (Q := fun _ _ _ => False) ?_ t_nil
  refine x_buildSliceL (cs := [Value.string (⟨#[]⟩)]) rfl rfl rfl Tryz.underlying54 sz9 zr9 rfl rfl rfl ?_
  intro p8
  refine x_end ?_
  refine t_gr (Q := fun _ _ _ => False) ?_ t_nil
  refine x_buildSliceL (cs := [Value.string (itoaS n)]) rfl rfl rfl Tryz.underlying54 sz9 zr9 rfl rfl rfl ?_
  intro p7
  refine x_end ?_
  refine t_gr (Q := fun _ _ _ => False) ?_ t_nil
  refine x_buildSliceL (cs := [Value.slice (some ⟨p7, 0, none⟩) 1 1, .slice (some ⟨p8, 0, none⟩) 1 1, .slice (some ⟨p17, 0, none⟩) 2 2]) rfl rfl rfl Tryz.underlying47 sz54 zr54 rfl rfl rfl ?_
  intro p18
  refine x_end ?_
  refine t_flt (Q := fun _ _ _ => False) ?_
  refine x_val rfl rfl rfl (v_buildL (places := [(0, 1), (1, 1)]) Tryz.underlying49 zr49 (by kernel_rfl) rfl rfl) ?_
  refine x_end ?_
  refine t_done ?_
  first
  | refine x_store0 (cs := #[Value.string ⟨#[]⟩, .slice none 0 0]) (e := 49) [(p18, _), (p7, _), (p8, _), (p17, _)] rfl rfl rfl rfl sz49 rfl rfl ?_
  | refine x_store0 (cs := #[Value.string ⟨#[]⟩, .slice none 0 0]) (e := 49) [(p18, _), (p7, _), (p17, _), (p8, _)] rfl rfl rfl rfl sz49 rfl rfl ?_
  | refine x_store0 (cs := #[Value.string ⟨#[]⟩, .slice none 0 0]) (e := 49) [(p18, _), (p8, _), (p7, _), (p17, _)] rfl rfl rfl rfl sz49 rfl rfl ?_
  | refine x_store0 (cs := #[Value.string ⟨#[]⟩, .slice none 0 0]) (e := 49) [(p18, _), (p8, _), (p17, _), (p7, _)] rfl rfl rfl rfl sz49 rfl rfl ?_
  | refine x_store0 (cs := #[Value.string ⟨#[]⟩, .slice none 0 0]) (e := 49) [(p18, _), (p17, _), (p7, _), (p8, _)] rfl rfl rfl rfl sz49 rfl rfl ?_
  | refine x_store0 (cs := #[Value.string ⟨#[]⟩, .slice none 0 0]) (e := 49) [(p18, _), (p17, _), (p8, _), (p7, _)] rfl rfl rfl rfl sz49 rfl rfl ?_
  refine x_end ?_
  refine t_norm ?_
  refine w_ret ?_
  refine retc (cs := #[Value.string (⟨#[76, 73, 78]⟩), .slice (some ⟨p18, 0, none⟩) 3 3]) rfl rfl (by repeat (first | exact List.Mem.head _ | apply List.Mem.tail)) Tryz.underlying49 rfl sz49 (fun w' hm => ⟨_, rfl, hm.base (by simp), ?_⟩)
  exact (lits_new (T := tySlice tyStr) (e := 54) (b := p18) [[Value.slice (some ⟨p7, 0, none⟩) 1 1], [Value.slice (some ⟨p8, 0, none⟩) 1 1], [Value.slice (some ⟨p17, 0, none⟩) 2 2]] (xs := [[itoaS n], [⟨#[]⟩], [recT r.1 r.2, ⟨#[83, 82, 86]⟩]]) hm (by simp) (by repeat (first | exact List.Mem.head _ | apply List.Mem.tail)) rfl (by simp) ⟨⟨_, rfl, (lits_new (T := tyStr) (e := 9) (b := p7) [[Value.string (itoaS n)]] (xs := [itoaS n]) hm (by simp) (by repeat (first | exact List.Mem.head _ | apply List.Mem.tail)) rfl (by simp) ⟨⟨rfl, itoa_ok hn.2⟩, trivial⟩)⟩, ⟨_, rfl, (lits_new (T := tyStr) (e := 9) (b := p8) [[Value.string (⟨#[]⟩)]] (xs := [⟨#[]⟩]) hm (by simp) (by repeat (first | exact List.Mem.head _ | apply List.Mem.tail)) rfl (by simp) ⟨⟨rfl, (okS_small (by decide))⟩, trivial⟩)⟩, ⟨_, rfl, (lits_new (T := tyStr) (e := 9) (b := p17) [[Value.string (recT r.1 r.2)], [Value.string (⟨#[83, 82, 86]⟩)]] (xs := [recT r.1 r.2, ⟨#[83, 82, 86]⟩]) hm (by simp) (by repeat (first | exact List.Mem.head _ | apply List.Mem.tail)) rfl (by simp) ⟨⟨rfl, recT_ok h1.2 h2.2⟩, ⟨rfl, (okS_small (by decide))⟩, trivial⟩)⟩, trivial⟩)

end Go.Proofs.YtbamklefagghcaaGreatDoor

namespace Go.Proofs.YtbamklefagghcaaGreatDoor
open Go.RowKit Go.PK
set_option linter.unusedVariables false
set_option linter.unusedSimpArgs false
set_option maxHeartbeats 4000000 in
set_option maxRecDepth 100000 in
theorem c_rOrder (o : Ord) (w : World) (hok : o.ok) :
    Calls Tryz.prog 13 #[.agg o.cells.toArray] w fun e w' => ∃ v, e = .returned v ∧ Later w w' ∧ sliceRd tySeg (fun b => w.heap.size ≤ b) w' v (orderR o) ∧ ((orderR o).length = 0 → v = .slice none 0 0) := by
  have hoi : in64 o.id ∧ in64 o.fund ∧ in64 o.src ∧ in64 o.num ∧ in64 o.copies ∧ in64 o.price := hok
  obtain ⟨i1, i2, i3, i4, i5, i6⟩ := hoi
  refine enter (vs := [.agg o.cells.toArray]) Tryz.func13 rfl Tryz.ntmps13 rfl ?_
  refine w_seq ?_
  refine rg_text ?_
  refine x_box rfl rfl rfl rfl ?_
  intro p1
  refine x_val rfl rfl rfl (v_assign rfl) ?_
  refine x_end ?_
  refine t_norm ?_
  refine w_seq ?_
  refine rg_text ?_
  refine x_val rfl rfl rfl (v_load_blk (e := 25) (fz := (0, 0)) (cs := o.cells.toArray) Tryz.underlying25 rfl rfl (.head _) sz25) ?_
  refine x_callb rfl rfl rfl Tryz.func34 (by kernel_rfl) rfl (fun w1 hw1 => c_rWritable o w1) ?_
  intro b5 hb5
  refine x_val rfl rfl rfl (v_assign rfl) ?_
  refine x_end ?_
  refine t_norm ?_
  refine w_seq ?_
  refine w_seq ?_
  refine rg_text ?_
  refine x_val rfl rfl rfl (v_move rfl) ?_
  refine x_bool rfl rfl rfl (v_not rfl) ?_
  intro b7 hb7
  refine x_end ?_
  refine t_norm ?_
  refine w_cond rfl (fun hc7 => ?_) (fun hc7 => ?_)
  · have hw : writB o = false := by rw [hb7, hb5] at hc7; simpa using hc7
    refine w_seq ?_
    refine rg_text ?_
    refine x_val rfl rfl rfl (v_assign rfl) ?_
    refine x_end ?_
    refine t_norm ?_
    refine w_ret ?_
    refine t_ret ?_
    refine ret1 rfl rfl (fun w' hm => ?_)
    rw [show orderR o = [] from by unfold orderR; rw [hw]; rfl]
    exact ⟨_, rfl, hm.base (by simp), sliceRd_nil, fun _ => rfl⟩
  · have hw : writB o = true := by rw [hb7, hb5] at hc7; simpa using hc7
    have hwr := (writB_iff o).1 hw
    obtain ⟨n1, n2, n3, n4, n5, n6⟩ := wrO_nn hwr
    refine w_skip ?_
    refine t_norm ?_
    refine w_seq ?_
    refine rg_tree 25 (.flt 1 (.flt 2 (.flt 6 (.flt 7 (.flt 9 (.flt 10 (.flt 13 (.flt 14 (.flt 17 (.flt 18 (.gr 0 (.flt 3 (.gr 4 (.gr 5 (.gr 8 (.flt 11 (.gr 12 (.flt 15 (.gr 16 (.flt 19 (.gr 20 (.gr 21 (.gr 22 (.gr 23 (.flt 24 .done) .nil) .nil) .nil) (.gr 21 (.gr 20 (.gr 22 (.gr 23 (.flt 24 .done) .nil) .nil) .nil) .nil))) (.gr 21 (.gr 16 (.flt 19 (.gr 20 (.gr 22 (.gr 23 (.flt 24 .done) .nil) .nil) .nil)) .nil) .nil))) (.gr 21 (.gr 12 (.flt 15 (.gr 16 (.flt 19 (.gr 20 (.gr 22 (.gr 23 (.flt 24 .done) .nil) .nil) .nil)) .nil)) .nil) .nil))) (.gr 21 (.gr 8 (.flt 11 (.gr 12 (.flt 15 (.gr 16 (.flt 19 (.gr 20 (.gr 22 (.gr 23 (.flt 24 .done) .nil) .nil) .nil)) .nil)) .nil)) .nil) .nil)) (.gr 21 (.gr 5 (.gr 8 (.flt 11 (.gr 12 (.flt 15 (.gr 16 (.flt 19 (.gr 20 (.gr 22 (.gr 23 (.flt 24 .done) .nil) .nil) .nil)) .nil)) .nil)) .nil) .nil) .nil)) (.gr 21 (.gr 4 (.gr 5 (.gr 8 (.flt 11 (.gr 12 (.flt 15 (.gr 16 (.flt 19 (.gr 20 (.gr 22 (.gr 23 (.flt 24 .done) .nil) .nil) .nil)) .nil)) .nil)) .nil) .nil) .nil) .nil))) (.gr 21 (.gr 0 (.flt 3 (.gr 4 (.gr 5 (.gr 8 (.flt 11 (.gr 12 (.flt 15 (.gr 16 (.flt 19 (.gr 20 (.gr 22 (.gr 23 (.flt 24 .done) .nil) .nil) .nil)) .nil)) .nil)) .nil) .nil) .nil)) .nil) .nil)))))))))))) (by kernel_rfl) (by kernel_rfl) ?_
    refine t_flt (Q := fun _ _ _ => False) ?_
    refine x_val rfl rfl rfl (v_fieldAddr (off' := 0) Tryz.underlying25 rfl sz3 (by decide) rfl rfl) ?_
    refine x_end ?_
    refine t_flt (Q := fun _ _ _ => False) ?_
    refine x_val rfl rfl rfl (v_load Tryz.underlying3 rfl rfl (at_ownL (vs := o.cells) (by repeat (first | exact List.Mem.head _ | apply List.Mem.tail)) rfl)) ?_
    refine x_end ?_
    refine t_flt (Q := fun _ _ _ => False) ?_
    refine x_val rfl rfl rfl (v_fieldAddr (off' := 2) Tryz.underlying25 rfl sz23 (by decide) rfl rfl) ?_
    refine x_end ?_
    refine t_flt (Q := fun _ _ _ => False) ?_
    refine x_val rfl rfl rfl (v_loadN (vs := [Value.int .i64 o.src, .int .i64 o.num]) Tryz.underlying23 rfl sz23 rfl (fun j hj => at_ownL (vs := o.cells) (by repeat (first | exact List.Mem.head _ | apply List.Mem.tail)) (by match j, hj with | 0, _ => rfl | 1, _ => rfl))) ?_
    refine x_end ?_
    refine t_flt (Q := fun _ _ _ => False) ?_
    refine x_val rfl rfl rfl (v_fieldAddr (off' := 4) Tryz.underlying25 rfl sz3 (by decide) rfl rfl) ?_
    refine x_end ?_
    refine t_flt (Q := fun _ _ _ => False) ?_
    refine x_val rfl rfl rfl (v_load Tryz.underlying3 rfl rfl (at_ownL (vs := o.cells) (by repeat (first | exact List.Mem.head _ | apply List.Mem.tail)) rfl)) ?_
    refine x_end ?_
    refine t_flt (Q := fun _ _ _ => False) ?_
    refine x_val rfl rfl rfl (v_fieldAddr (off' := 5) Tryz.underlying25 rfl sz3 (by decide) rfl rfl) ?_
    refine x_end ?_
    refine t_flt (Q := fun _ _ _ => False) ?_
    refine x_val rfl rfl rfl (v_load Tryz.underlying3 rfl rfl (at_ownL (vs := o.cells) (by repeat (first | exact List.Mem.head _ | apply List.Mem.tail)) rfl)) ?_
    refine x_end ?_
    refine t_flt (Q := fun _ _ _ => False) ?_
    refine x_val rfl rfl rfl (v_fieldAddr (off' := 1) Tryz.underlying25 rfl sz3 (by decide) rfl rfl) ?_
    refine x_end ?_
    refine t_flt (Q := fun _ _ _ => False) ?_
    refine x_val rfl rfl rfl (v_load Tryz.underlying3 rfl rfl (at_ownL (vs := o.cells) (by repeat (first | exact List.Mem.head _ | apply List.Mem.tail)) rfl)) ?_
    refine x_end ?_
    refine t_gr (Q := fun _ _ _ => False) ?_ ?_
    · refine x_call (R := fun v wa wb => ∃ A c, v = .agg #[.string (⟨#[85, 78, 72]⟩), .slice A 2 c] ∧ sliceRd (tySlice tyStr) (fun b => wa.heap.size ≤ b) wb (.slice A 2 c) [[⟨#[49]⟩], [⟨#[79, 82, 68, 69, 82, 83]⟩, ⟨#[68]⟩, ⟨#[57, 54, 65]⟩, ⟨#[85, 78]⟩]]) rfl rfl rfl Tryz.func35 (by kernel_rfl) rfl (fun w1 hw1 => (c_header ⟨#[79, 82, 68, 69, 82, 83]⟩ w1 (okS_small (by decide))).mono fun e w2 ⟨u, h1, h2, h3⟩ => seg_out h1 h2 h3) ?_
      intro v8 wa8 wb8 hm8 hl8 hR8
      obtain ⟨A8, c8, rfl, hs8⟩ := hR8
      refine x_end ?_
      refine t_flt (Q := fun _ _ _ => False) ?_
      refine x_callv rfl rfl rfl Tryz.func21 (by kernel_rfl) rfl (fun w1 hw1 => c_Dec o.id w1 n1 i1) ?_
      refine x_end ?_
      refine t_gr (Q := fun _ _ _ => False) ?_ ?_
      · refine x_buildSliceL (cs := [Value.string (⟨#[50, 50, 48]⟩), Value.string (itoaS o.id)]) rfl rfl rfl Tryz.underlying54 sz9 zr9 rfl rfl rfl ?_
        intro p12
        refine x_end ?_
        refine t_gr (Q := fun _ _ _ => False) ?_ ?_
        · refine x_call (R := fun v wa wb => ∃ A c, v = .agg #[.string (⟨#[66, 71, 77]⟩), .slice A 2 c] ∧ sliceRd (tySlice tyStr) (fun b => wa.heap.size ≤ b) wb (.slice A 2 c) [[⟨#[50, 50, 48]⟩], [itoaS o.id]]) rfl rfl rfl Tryz.func36 (by kernel_rfl) rfl (fun w1 hw1 => (c_one (es := [⟨#[50, 50, 48]⟩, itoaS o.id]) (D := fun _ => True) ⟨#[66, 71, 77]⟩ w1 (lits_own (T := tyStr) (D := fun _ => True) (e := 9) (b := p12) [[Value.string (⟨#[50, 50, 48]⟩)], [Value.string (itoaS o.id)]] (xs := [⟨#[50, 50, 48]⟩, itoaS o.id]) hw1 (by repeat (first | exact List.Mem.head _ | apply List.Mem.tail)) rfl (by simp) trivial ⟨⟨rfl, (okS_small (by decide))⟩, ⟨rfl, itoa_ok i1⟩, trivial⟩) (by simp)).mono fun e w2 ⟨u, h1, h2, h3⟩ => seg_out h1 h2 h3) ?_
          intro v13 wa13 wb13 hm13 hl13 hR13
          obtain ⟨A13, c13, rfl, hs13⟩ := hR13
          refine x_end ?_
          refine t_gr (Q := fun _ _ _ => False) ?_ ?_
          · refine x_call (R := fun v wa wb => ∃ A c, v = .agg #[.string (⟨#[76, 73, 78]⟩), .slice A 3 c] ∧ sliceRd (tySlice tyStr) (fun b => wa.heap.size ≤ b) wb (.slice A 3 c) [[itoaS 1], [⟨#[]⟩], [recT o.src o.num, ⟨#[83, 82, 86]⟩]]) rfl rfl rfl Tryz.func37 (by kernel_rfl) rfl (fun w1 hw1 => (c_line 1 (o.src, o.num) w1 ⟨by decide, by unfold in64; decide⟩ ⟨n3, i3⟩ ⟨n4, i4⟩).mono fun e w2 ⟨u, h1, h2, h3⟩ => seg_out h1 h2 h3) ?_
            intro v16 wa16 wb16 hm16 hl16 hR16
            obtain ⟨A16, c16, rfl, hs16⟩ := hR16
            refine x_end ?_
            refine t_flt (Q := fun _ _ _ => False) ?_
            refine x_callv rfl rfl rfl Tryz.func21 (by kernel_rfl) rfl (fun w1 hw1 => c_Dec o.copies w1 n5 i5) ?_
            refine x_end ?_
            refine t_gr (Q := fun _ _ _ => False) ?_ ?_
            · refine x_call (R := fun v wa wb => ∃ A c, v = .agg #[.string (⟨#[81, 84, 89]⟩), .slice A 1 c] ∧ sliceRd (tySlice tyStr) (fun b => wa.heap.size ≤ b) wb (.slice A 1 c) [[⟨#[50, 49]⟩, itoaS o.copies]]) rfl rfl rfl Tryz.func38 (by kernel_rfl) rfl (fun w1 hw1 => (c_pair ⟨#[81, 84, 89]⟩ ⟨#[50, 49]⟩ (itoaS o.copies) w1 (okS_small (by decide)) (itoa_ok i5)).mono fun e w2 ⟨u, h1, h2, h3⟩ => seg_out h1 h2 h3) ?_
              intro v20 wa20 wb20 hm20 hl20 hR20
              obtain ⟨A20, c20, rfl, hs20⟩ := hR20
              refine x_end ?_
              refine t_flt (Q := fun _ _ _ => False) ?_
              refine x_callv rfl rfl rfl Tryz.func21 (by kernel_rfl) rfl (fun w1 hw1 => c_Dec o.price w1 n6 i6) ?_
              refine x_end ?_
              refine t_gr (Q := fun _ _ _ => False) ?_ ?_
              · refine x_call (R := fun v wa wb => ∃ A c, v = .agg #[.string (⟨#[80, 82, 73]⟩), .slice A 1 c] ∧ sliceRd (tySlice tyStr) (fun b => wa.heap.size ≤ b) wb (.slice A 1 c) [[⟨#[65, 65, 65]⟩, itoaS o.price]]) rfl rfl rfl Tryz.func38 (by kernel_rfl) rfl (fun w1 hw1 => (c_pair ⟨#[80, 82, 73]⟩ ⟨#[65, 65, 65]⟩ (itoaS o.price) w1 (okS_small (by decide)) (itoa_ok i6)).mono fun e w2 ⟨u, h1, h2, h3⟩ => seg_out h1 h2 h3) ?_
                intro v24 wa24 wb24 hm24 hl24 hR24
                obtain ⟨A24, c24, rfl, hs24⟩ := hR24
                refine x_end ?_
                refine t_flt (Q := fun _ _ _ => False) ?_
                refine x_callv rfl rfl rfl Tryz.func21 (by kernel_rfl) rfl (fun w1 hw1 => c_Dec o.fund w1 n2 i2) ?_
                refine x_end ?_
                refine t_gr (Q := fun _ _ _ => False) ?_ ?_
                · refine x_call (R := fun v wa wb => ∃ A c, v = .agg #[.string (⟨#[82, 70, 70]⟩), .slice A 1 c] ∧ sliceRd (tySlice tyStr) (fun b => wa.heap.size ≤ b) wb (.slice A 1 c) [[⟨#[66, 70, 78]⟩, itoaS o.fund]]) rfl rfl rfl Tryz.func38 (by kernel_rfl) rfl (fun w1 hw1 => (c_pair ⟨#[82, 70, 70]⟩ ⟨#[66, 70, 78]⟩ (itoaS o.fund) w1 (okS_small (by decide)) (itoa_ok i2)).mono fun e w2 ⟨u, h1, h2, h3⟩ => seg_out h1 h2 h3) ?_
                  intro v28 wa28 wb28 hm28 hl28 hR28
                  obtain ⟨A28, c28, rfl, hs28⟩ := hR28
                  refine x_end ?_
                  refine t_gr (Q := fun _ _ _ => False) ?_ t_nil
                  refine x_buildSliceL (cs := [Value.string (⟨#[55]⟩), Value.string (⟨#[49]⟩)]) rfl rfl rfl Tryz.underlying54 sz9 zr9 rfl rfl rfl ?_
                  intro p29
                  refine x_end ?_
                  refine t_gr (Q := fun _ _ _ => False) ?_ t_nil
                  refine x_call (R := fun v wa wb => ∃ A c, v = .agg #[.string (⟨#[85, 78, 84]⟩), .slice A 2 c] ∧ sliceRd (tySlice tyStr) (fun b => wa.heap.size ≤ b) wb (.slice A 2 c) [[⟨#[55]⟩], [⟨#[49]⟩]]) rfl rfl rfl Tryz.func36 (by kernel_rfl) rfl (fun w1 hw1 => (c_one (es := [⟨#[55]⟩, ⟨#[49]⟩]) (D := fun _ => True) ⟨#[85, 78, 84]⟩ w1 (lits_own (T := tyStr) (D := fun _ => True) (e := 9) (b := p29) [[Value.string (⟨#[55]⟩)], [Value.string (⟨#[49]⟩)]] (xs := [⟨#[55]⟩, ⟨#[49]⟩]) hw1 (by repeat (first | exact List.Mem.head _ | apply List.Mem.tail)) rfl (by simp) trivial ⟨⟨rfl, (okS_small (by decide))⟩, ⟨rfl, (okS_small (by decide))⟩, trivial⟩) (by simp)).mono fun e w2 ⟨u, h1, h2, h3⟩ => seg_out h1 h2 h3) ?_
                  intro v30 wa30 wb30 hm30 hl30 hR30
                  obtain ⟨A30, c30, rfl, hs30⟩ := hR30
                  refine x_end ?_
                  refine t_gr (Q := fun _ _ _ => False) ?_ t_nil
                  refine x_buildSliceL (cs := ([[Value.string (⟨#[85, 78, 72]⟩), .slice A8 2 c8], [Value.string (⟨#[66, 71, 77]⟩), .slice A13 2 c13], [Value.string (⟨#[76, 73, 78]⟩), .slice A16 3 c16], [Value.string (⟨#[81, 84, 89]⟩), .slice A20 1 c20], [Value.string (⟨#[80, 82, 73]⟩), .slice A24 1 c24], [Value.string (⟨#[82, 70, 70]⟩), .slice A28 1 c28], [Value.string (⟨#[85, 78, 84]⟩), .slice A30 2 c30]] : List (List Value)).flatten) rfl rfl rfl Tryz.underlying29 sz49 zr49 rfl rfl rfl ?_
                  intro p31
                  refine x_end ?_
                  refine t_flt (Q := fun _ _ _ => False) ?_
                  refine x_val rfl rfl rfl (v_assign rfl) ?_
                  refine x_end ?_
                  refine t_done ?_
                  refine x_end ?_
                  refine t_norm ?_
                  refine w_ret ?_
                  refine ret1 rfl rfl (fun w' hm => ?_)
                  rw [show orderR o = orderX o from by unfold orderR; rw [if_pos hw, orderP_X (wrO_nn hwr)]]
                  exact ⟨_, rfl, hm.base (by simp), RdAll.rd (e := 49) (css := [[Value.string (⟨#[85, 78, 72]⟩), .slice A8 2 c8], [Value.string (⟨#[66, 71, 77]⟩), .slice A13 2 c13], [Value.string (⟨#[76, 73, 78]⟩), .slice A16 3 c16], [Value.string (⟨#[81, 84, 89]⟩), .slice A20 1 c20], [Value.string (⟨#[80, 82, 73]⟩), .slice A24 1 c24], [Value.string (⟨#[82, 70, 70]⟩), .slice A28 1 c28], [Value.string (⟨#[85, 78, 84]⟩), .slice A30 2 c30]]) (xs := orderX o) (.cons (tySeg_mk (x := ⟨⟨#[85, 78, 72]⟩, [[⟨#[49]⟩], [⟨#[79, 82, 68, 69, 82, 83]⟩, ⟨#[68]⟩, ⟨#[57, 54, 65]⟩, ⟨#[85, 78]⟩]]⟩) rfl (show (3 : Nat) ≤ 9223372036854775807 by decide) (hs8.keep (Kept.made hm (by repeat (first | exact List.Mem.head _ | apply List.Mem.tail)) hm8 (hm8.base (by simp)).size))) (.cons (tySeg_mk (x := ⟨⟨#[66, 71, 77]⟩, [[⟨#[50, 50, 48]⟩], [itoaS o.id]]⟩) rfl (show (3 : Nat) ≤ 9223372036854775807 by decide) (hs13.keep (Kept.made hm (by repeat (first | exact List.Mem.head _ | apply List.Mem.tail)) hm13 (hm13.base (by simp)).size))) (.cons (tySeg_mk (x := ⟨⟨#[76, 73, 78]⟩, [[itoaS 1], [⟨#[]⟩], [recT o.src o.num, ⟨#[83, 82, 86]⟩]]⟩) rfl (show (3 : Nat) ≤ 9223372036854775807 by decide) (hs16.keep (Kept.made hm (by repeat (first | exact List.Mem.head _ | apply List.Mem.tail)) hm16 (hm16.base (by simp)).size))) (.cons (tySeg_mk (x := ⟨⟨#[81, 84, 89]⟩, [[⟨#[50, 49]⟩, itoaS o.copies]]⟩) rfl (show (3 : Nat) ≤ 9223372036854775807 by decide) (hs20.keep (Kept.made hm (by repeat (first | exact List.Mem.head _ | apply List.Mem.tail)) hm20 (hm20.base (by simp)).size))) (.cons (tySeg_mk (x := ⟨⟨#[80, 82, 73]⟩, [[⟨#[65, 65, 65]⟩, itoaS o.price]]⟩) rfl (show (3 : Nat) ≤ 9223372036854775807 by decide) (hs24.keep (Kept.made hm (by repeat (first | exact List.Mem.head _ | apply List.Mem.tail)) hm24 (hm24.base (by simp)).size))) (.cons (tySeg_mk (x := ⟨⟨#[82, 70, 70]⟩, [[⟨#[66, 70, 78]⟩, itoaS o.fund]]⟩) rfl (show (3 : Nat) ≤ 9223372036854775807 by decide) (hs28.keep (Kept.made hm (by repeat (first | exact List.Mem.head _ | apply List.Mem.tail)) hm28 (hm28.base (by simp)).size))) (.cons (tySeg_mk (x := ⟨⟨#[85, 78, 84]⟩, [[⟨#[55]⟩], [⟨#[49]⟩]]⟩) rfl (show (3 : Nat) ≤ 9223372036854775807 by decide) (hs30.keep (Kept.made hm (by repeat (first | exact List.Mem.head _ | apply List.Mem.tail)) hm30 (hm30.base (by simp)).size))) (.nil)))))))) hm (.head _) (by repeat (first | exact List.Mem.head _ | apply List.Mem.tail)) rfl (show (7 : Nat) ≤ maxLen by decide), fun h => absurd (show (7 : Nat) = 0 from h) (by decide)⟩
                refine t_gr (Q := fun _ _ _ => False) ?_ t_nil
                refine x_buildSliceL (cs := [Value.string (⟨#[55]⟩), Value.string (⟨#[49]⟩)]) rfl rfl rfl Tryz.underlying54 sz9 zr9 rfl rfl rfl ?_
                intro p29
                refine x_end ?_
                refine t_gr (Q := fun _ _ _ => False) ?_ t_nil
                refine x_call (R := fun v wa wb => ∃ A c, v = .agg #[.string (⟨#[82, 70, 70]⟩), .slice A 1 c] ∧ sliceRd (tySlice tyStr) (fun b => wa.heap.size ≤ b) wb (.slice A 1 c) [[⟨#[66, 70, 78]⟩, itoaS o.fund]]) rfl rfl rfl Tryz.func38 (by kernel_rfl) rfl (fun w1 hw1 => (c_pair ⟨#[82, 70, 70]⟩ ⟨#[66, 70, 78]⟩ (itoaS o.fund) w1 (okS_small (by decide)) (itoa_ok i2)).mono fun e w2 ⟨u, h1, h2, h3⟩ => seg_out h1 h2 h3) ?_
                intro v28 wa28 wb28 hm28 hl28 hR28
                obtain ⟨A28, c28, rfl, hs28⟩ := hR28
                refine x_end ?_
                refine t_gr (Q := fun _ _ _ => False) ?_ t_nil
                refine x_call (R := fun v wa wb => ∃ A c, v = .agg #[.string (⟨#[85, 78, 84]⟩), .slice A 2 c] ∧ sliceRd (tySlice tyStr) (fun b => wa.heap.size ≤ b) wb (.slice A 2 c) [[⟨#[55]⟩], [⟨#[49]⟩]]) rfl rfl rfl Tryz.func36 (by kernel_rfl) rfl (fun w1 hw1 => (c_one (es := [⟨#[55]⟩, ⟨#[49]⟩]) (D := fun _ => True) ⟨#[85, 78, 84]⟩ w1 (lits_own (T := tyStr) (D := fun _ => True) (e := 9) (b := p29) [[Value.string (⟨#[55]⟩)], [Value.string (⟨#[49]⟩)]] (xs := [⟨#[55]⟩, ⟨#[49]⟩]) hw1 (by repeat (first | exact List.Mem.head _ | apply List.Mem.tail)) rfl (by simp) trivial ⟨⟨rfl, (okS_small (by decide))⟩, ⟨rfl, (okS_small (by decide))⟩, trivial⟩) (by simp)).mono fun e w2 ⟨u, h1, h2, h3⟩ => seg_out h1 h2 h3) ?_
                intro v30 wa30 wb30 hm30 hl30 hR30
                obtain ⟨A30, c30, rfl, hs30⟩ := hR30
                refine x_end ?_
                refine t_gr (Q := fun _ _ _ => False) ?_ t_nil
                refine x_buildSliceL (cs := ([[Value.string (⟨#[85, 78, 72]⟩), .slice A8 2 c8], [Value.string (⟨#[66, 71, 77]⟩), .slice A13 2 c13], [Value.string (⟨#[76, 73, 78]⟩), .slice A16 3 c16], [Value.string (⟨#[81, 84, 89]⟩), .slice A20 1 c20], [Value.string (⟨#[80, 82, 73]⟩), .slice A24 1 c24], [Value.string (⟨#[82, 70, 70]⟩), .slice A28 1 c28], [Value.string (⟨#[85, 78, 84]⟩), .slice A30 2 c30]] : List (List Value)).flatten) rfl rfl rfl Tryz.underlying29 sz49 zr49 rfl rfl rfl ?_
                intro p31
                refine x_end ?_
                refine t_flt (Q := fun _ _ _ => False) ?_
                refine x_val rfl rfl rfl (v_assign rfl) ?_
                refine x_end ?_
                refine t_done ?_
                refine x_end ?_
                refine t_norm ?_
                refine w_ret ?_
                refine ret1 rfl rfl (fun w' hm => ?_)
                rw [show orderR o = orderX o from by unfold orderR; rw [if_pos hw, orderP_X (wrO_nn hwr)]]
                exact ⟨_, rfl, hm.base (by simp), RdAll.rd (e := 49) (css := [[Value.string (⟨#[85, 78, 72]⟩), .slice A8 2 c8], [Value.string (⟨#[66, 71, 77]⟩), .slice A13 2 c13], [Value.string (⟨#[76, 73, 78]⟩), .slice A16 3 c16], [Value.string (⟨#[81, 84, 89]⟩), .slice A20 1 c20], [Value.string (⟨#[80, 82, 73]⟩), .slice A24 1 c24], [Value.string (⟨#[82, 70, 70]⟩), .slice A28 1 c28], [Value.string (⟨#[85, 78, 84]⟩), .slice A30 2 c30]]) (xs := orderX o) (.cons (tySeg_mk (x := ⟨⟨#[85, 78, 72]⟩, [[⟨#[49]⟩], [⟨#[79, 82, 68, 69, 82, 83]⟩, ⟨#[68]⟩, ⟨#[57, 54, 65]⟩, ⟨#[85, 78]⟩]]⟩) rfl (show (3 : Nat) ≤ 9223372036854775807 by decide) (hs8.keep (Kept.made hm (by repeat (first | exact List.Mem.head _ | apply List.Mem.tail)) hm8 (hm8.base (by simp)).size))) (.cons (tySeg_mk (x := ⟨⟨#[66, 71, 77]⟩, [[⟨#[50, 50, 48]⟩], [itoaS o.id]]⟩) rfl (show (3 : Nat) ≤ 9223372036854775807 by decide) (hs13.keep (Kept.made hm (by repeat (first | exact List.Mem.head _ | apply List.Mem.tail)) hm13 (hm13.base (by simp)).size))) (.cons (tySeg_mk (x := ⟨⟨#[76, 73, 78]⟩, [[itoaS 1], [⟨#[]⟩], [recT o.src o.num, ⟨#[83, 82, 86]⟩]]⟩) rfl (show (3 : Nat) ≤ 9223372036854775807 by decide) (hs16.keep (Kept.made hm (by repeat (first | exact List.Mem.head _ | apply List.Mem.tail)) hm16 (hm16.base (by simp)).size))) (.cons (tySeg_mk (x := ⟨⟨#[81, 84, 89]⟩, [[⟨#[50, 49]⟩, itoaS o.copies]]⟩) rfl (show (3 : Nat) ≤ 9223372036854775807 by decide) (hs20.keep (Kept.made hm (by repeat (first | exact List.Mem.head _ | apply List.Mem.tail)) hm20 (hm20.base (by simp)).size))) (.cons (tySeg_mk (x := ⟨⟨#[80, 82, 73]⟩, [[⟨#[65, 65, 65]⟩, itoaS o.price]]⟩) rfl (show (3 : Nat) ≤ 9223372036854775807 by decide) (hs24.keep (Kept.made hm (by repeat (first | exact List.Mem.head _ | apply List.Mem.tail)) hm24 (hm24.base (by simp)).size))) (.cons (tySeg_mk (x := ⟨⟨#[82, 70, 70]⟩, [[⟨#[66, 70, 78]⟩, itoaS o.fund]]⟩) rfl (show (3 : Nat) ≤ 9223372036854775807 by decide) (hs28.keep (Kept.made hm (by repeat (first | exact List.Mem.head _ | apply List.Mem.tail)) hm28 (hm28.base (by simp)).size))) (.cons (tySeg_mk (x := ⟨⟨#[85, 78, 84]⟩, [[⟨#[55]⟩], [⟨#[49]⟩]]⟩) rfl (show (3 : Nat) ≤ 9223372036854775807 by decide) (hs30.keep (Kept.made hm (by repeat (first | exact List.Mem.head _ | apply List.Mem.tail)) hm30 (hm30.base (by simp)).size))) (.nil)))))))) hm (.head _) (by repeat (first | exact List.Mem.head _ | apply List.Mem.tail)) rfl (show (7 : Nat) ≤ maxLen by decide), fun h => absurd (show (7 : Nat) = 0 from h) (by decide)⟩
              refine t_gr (Q := fun _ _ _ => False) ?_ t_nil
              refine x_buildSliceL (cs := [Value.string (⟨#[55]⟩), Value.string (⟨#[49]⟩)]) rfl rfl rfl Tryz.underlying54 sz9 zr9 rfl rfl rfl ?_
              intro p29
              refine x_end ?_
              refine t_gr (Q := fun _ _ _ => False) ?_ t_nil
              refine x_call (R := fun v wa wb => ∃ A c, v = .agg #[.string (⟨#[80, 82, 73]⟩), .slice A 1 c] ∧ sliceRd (tySlice tyStr) (fun b => wa.heap.size ≤ b) wb (.slice A 1 c) [[⟨#[65, 65, 65]⟩, itoaS o.price]]) rfl rfl rfl Tryz.func38 (by kernel_rfl) rfl (fun w1 hw1 => (c_pair ⟨#[80, 82, 73]⟩ ⟨#[65, 65, 65]⟩ (itoaS o.price) w1 (okS_small (by decide)) (itoa_ok i6)).mono fun e w2 ⟨u, h1, h2, h3⟩ => seg_out h1 h2 h3) ?_
              intro v24 wa24 wb24 hm24 hl24 hR24
              obtain ⟨A24, c24, rfl, hs24⟩ := hR24
              refine x_end ?_
              refine t_flt (Q := fun _ _ _ => False) ?_
              refine x_callv rfl rfl rfl Tryz.func21 (by kernel_rfl) rfl (fun w1 hw1 => c_Dec o.fund w1 n2 i2) ?_
              refine x_end ?_
              refine t_gr (Q := fun _ _ _ => False) ?_ t_nil
              refine x_call (R := fun v wa wb => ∃ A c, v = .agg #[.string (⟨#[82, 70, 70]⟩), .slice A 1 c] ∧ sliceRd (tySlice tyStr) (fun b => wa.heap.size ≤ b) wb (.slice A 1 c) [[⟨#[66, 70, 78]⟩, itoaS o.fund]]) rfl rfl rfl Tryz.func38 (by kernel_rfl) rfl (fun w1 hw1 => (c_pair ⟨#[82, 70, 70]⟩ ⟨#[66, 70, 78]⟩ (itoaS o.fund) w1 (okS_small (by decide)) (itoa_ok i2)).mono fun e w2 ⟨u, h1, h2, h3⟩ => seg_out h1 h2 h3) ?_
              intro v28 wa28 wb28 hm28 hl28 hR28
              obtain ⟨A28, c28, rfl, hs28⟩ := hR28
              refine x_end ?_
              refine t_gr (Q := fun _ _ _ => False) ?_ t_nil
              refine x_call (R := fun v wa wb => ∃ A c, v = .agg #[.string (⟨#[85, 78, 84]⟩), .slice A 2 c] ∧ sliceRd (tySlice tyStr) (fun b => wa.heap.size ≤ b) wb (.slice A 2 c) [[⟨#[55]⟩], [⟨#[49]⟩]]) rfl rfl rfl Tryz.func36 (by kernel_rfl) rfl (fun w1 hw1 => (c_one (es := [⟨#[55]⟩, ⟨#[49]⟩]) (D := fun _ => True) ⟨#[85, 78, 84]⟩ w1 (lits_own (T := tyStr) (D := fun _ => True) (e := 9) (b := p29) [[Value.string (⟨#[55]⟩)], [Value.string (⟨#[49]⟩)]] (xs := [⟨#[55]⟩, ⟨#[49]⟩]) hw1 (by repeat (first | exact List.Mem.head _ | apply List.Mem.tail)) rfl (by simp) trivial ⟨⟨rfl, (okS_small (by decide))⟩, ⟨rfl, (okS_small (by decide))⟩, trivial⟩) (by simp)).mono fun e w2 ⟨u, h1, h2, h3⟩ => seg_out h1 h2 h3) ?_
              intro v30 wa30 wb30 hm30 hl30 hR30
              obtain ⟨A30, c30, rfl, hs30⟩ := hR30
              refine x_end ?_
              refine t_gr (Q := fun _ _ _ => False) ?_ t_nil
              refine x_buildSliceL (cs := ([[Value.string (⟨#[85, 78, 72]⟩), .slice A8 2 c8], [Value.string (⟨#[66, 71, 77]⟩), .slice A13 2 c13], [Value.string (⟨#[76, 73, 78]⟩), .slice A16 3 c16], [Value.string (⟨#[81, 84, 89]⟩), .slice A20 1 c20], [Value.string (⟨#[80, 82, 73]⟩), .slice A24 1 c24], [Value.string (⟨#[82, 70, 70]⟩), .slice A28 1 c28], [Value.string (⟨#[85, 78, 84]⟩), .slice A30 2 c30]] : List (List Value)).flatten) rfl rfl rfl Tryz.underlying29 sz49 zr49 rfl rfl rfl ?_
              intro p31
              refine x_end ?_
              refine t_flt (Q := fun _ _ _ => False) ?_
              refine x_val rfl rfl rfl (v_assign rfl) ?_
              refine x_end ?_
              refine t_done ?_
              refine x_end ?_
              refine t_norm ?_
              refine w_ret ?_
              refine ret1 rfl rfl (fun w' hm => ?_)
              rw [show orderR o = orderX o from by unfold orderR; rw [if_pos hw, orderP_X (wrO_nn hwr)]]
              exact ⟨_, rfl, hm.base (by simp), RdAll.rd (e := 49) (css := [[Value.string (⟨#[85, 78, 72]⟩), .slice A8 2 c8], [Value.string (⟨#[66, 71, 77]⟩), .slice A13 2 c13], [Value.string (⟨#[76, 73, 78]⟩), .slice A16 3 c16], [Value.string (⟨#[81, 84, 89]⟩), .slice A20 1 c20], [Value.string (⟨#[80, 82, 73]⟩), .slice A24 1 c24], [Value.string (⟨#[82, 70, 70]⟩), .slice A28 1 c28], [Value.string (⟨#[85, 78, 84]⟩), .slice A30 2 c30]]) (xs := orderX o) (.cons (tySeg_mk (x := ⟨⟨#[85, 78, 72]⟩, [[⟨#[49]⟩], [⟨#[79, 82, 68, 69, 82, 83]⟩, ⟨#[68]⟩, ⟨#[57, 54, 65]⟩, ⟨#[85, 78]⟩]]⟩) rfl (show (3 : Nat) ≤ 9223372036854775807 by decide) (hs8.keep (Kept.made hm (by repeat (first | exact List.Mem.head _ | apply List.Mem.tail)) hm8 (hm8.base (by simp)).size))) (.cons (tySeg_mk (x := ⟨⟨#[66, 71, 77]⟩, [[⟨#[50, 50, 48]⟩], [itoaS o.id]]⟩) rfl (show (3 : Nat) ≤ 9223372036854775807 by decide) (hs13.keep (Kept.made hm (by repeat (first | exact List.Mem.head _ | apply List.Mem.tail)) hm13 (hm13.base (by simp)).size))) (.cons (tySeg_mk (x := ⟨⟨#[76, 73, 78]⟩, [[itoaS 1], [⟨#[]⟩], [recT o.src o.num, ⟨#[83, 82, 86]⟩]]⟩) rfl (show (3 : Nat) ≤ 9223372036854775807 by decide) (hs16.keep (Kept.made hm (by repeat (first | exact List.Mem.head _ | apply List.Mem.tail)) hm16 (hm16.base (by simp)).size))) (.cons (tySeg_mk (x := ⟨⟨#[81, 84, 89]⟩, [[⟨#[50, 49]⟩, itoaS o.copies]]⟩) rfl (show (3 : Nat) ≤ 9223372036854775807 by decide) (hs20.keep (Kept.made hm (by repeat (first | exact List.Mem.head _ | apply List.Mem.tail)) hm20 (hm20.base (by simp)).size))) (.cons (tySeg_mk (x := ⟨⟨#[80, 82, 73]⟩, [[⟨#[65, 65, 65]⟩, itoaS o.price]]⟩) rfl (show (3 : Nat) ≤ 9223372036854775807 by decide) (hs24.keep (Kept.made hm (by repeat (first | exact List.Mem.head _ | apply List.Mem.tail)) hm24 (hm24.base (by simp)).size))) (.cons (tySeg_mk (x := ⟨⟨#[82, 70, 70]⟩, [[⟨#[66, 70, 78]⟩, itoaS o.fund]]⟩) rfl (show (3 : Nat) ≤ 9223372036854775807 by decide) (hs28.keep (Kept.made hm (by repeat (first | exact List.Mem.head _ | apply List.Mem.tail)) hm28 (hm28.base (by simp)).size))) (.cons (tySeg_mk (x := ⟨⟨#[85, 78, 84]⟩, [[⟨#[55]⟩], [⟨#[49]⟩]]⟩) rfl (show (3 : Nat) ≤ 9223372036854775807 by decide) (hs30.keep (Kept.made hm (by repeat (first | exact List.Mem.head _ | apply List.Mem.tail)) hm30 (hm30.base (by simp)).size))) (.nil)))))))) hm (.head _) (by repeat (first | exact List.Mem.head _ | apply List.Mem.tail)) rfl (show (7 : Nat) ≤ maxLen by decide), fun h => absurd (show (7 : Nat) = 0 from h) (by decide)⟩
            refine t_gr (Q := fun _ _ _ => False) ?_ t_nil
            refine x_buildSliceL (cs := [Value.string (⟨#[55]⟩), Value.string (⟨#[49]⟩)]) rfl rfl rfl Tryz.underlying54 sz9 zr9 rfl rfl rfl ?_
            intro p29
            refine x_end ?_
            refine t_gr (Q := fun _ _ _ => False) ?_ t_nil
            refine x_call (R := fun v wa wb => ∃ A c, v = .agg #[.string (⟨#[81, 84, 89]⟩), .slice A 1 c] ∧ sliceRd (tySlice tyStr) (fun b => wa.heap.size ≤ b) wb (.slice A 1 c) [[⟨#[50, 49]⟩, itoaS o.copies]]) rfl rfl rfl Tryz.func38 (by kernel_rfl) rfl (fun w1 hw1 => (c_pair ⟨#[81, 84, 89]⟩ ⟨#[50, 49]⟩ (itoaS o.copies) w1 (okS_small (by decide)) (itoa_ok i5)).mono fun e w2 ⟨u, h1, h2, h3⟩ => seg_out h1 h2 h3) ?_
            intro v20 wa20 wb20 hm20 hl20 hR20
            obtain ⟨A20, c20, rfl, hs20⟩ := hR20
            refine x_end ?_
            refine t_flt (Q := fun _ _ _ => False) ?_
            refine x_callv rfl rfl rfl Tryz.func21 (by kernel_rfl) rfl (fun w1 hw1 => c_Dec o.price w1 n6 i6) ?_
            refine x_end ?_
            refine t_gr (Q := fun _ _ _ => False) ?_ t_nil
            refine x_call (R := fun v wa wb => ∃ A c, v = .agg #[.string (⟨#[80, 82, 73]⟩), .slice A 1 c] ∧ sliceRd (tySlice tyStr) (fun b => wa.heap.size ≤ b) wb (.slice A 1 c) [[⟨#[65, 65, 65]⟩, itoaS o.price]]) rfl rfl rfl Tryz.func38 (by kernel_rfl) rfl (fun w1 hw1 => (c_pair ⟨#[80, 82, 73]⟩ ⟨#[65, 65, 65]⟩ (itoaS o.price) w1 (okS_small (by decide)) (itoa_ok i6)).mono fun e w2 ⟨u, h1, h2, h3⟩ => seg_out h1 h2 h3) ?_
            intro v24 wa24 wb24 hm24 hl24 hR24
            obtain ⟨A24, c24, rfl, hs24⟩ := hR24
            refine x_end ?_
            refine t_flt (Q := fun _ _ _ => False) ?_
            refine x_callv rfl rfl rfl Tryz.func21 (by kernel_rfl) rfl (fun w1 hw1 => c_Dec o.fund w1 n2 i2) ?_
            refine x_end ?_
            refine t_gr (Q := fun _ _ _ => False) ?_ t_nil
            refine x_call (R := fun v wa wb => ∃ A c, v = .agg #[.string (⟨#[82, 70, 70]⟩), .slice A 1 c] ∧ sliceRd (tySlice tyStr) (fun b => wa.heap.size ≤ b) wb (.slice A 1 c) [[⟨#[66, 70, 78]⟩, itoaS o.fund]]) rfl rfl rfl Tryz.func38 (by kernel_rfl) rfl (fun w1 hw1 => (c_pair ⟨#[82, 70, 70]⟩ ⟨#[66, 70, 78]⟩ (itoaS o.fund) w1 (okS_small (by decide)) (itoa_ok i2)).mono fun e w2 ⟨u, h1, h2, h3⟩ => seg_out h1 h2 h3) ?_
            intro v28 wa28 wb28 hm28 hl28 hR28
            obtain ⟨A28, c28, rfl, hs28⟩ := hR28
            refine x_end ?_
            refine t_gr (Q := fun _ _ _ => False) ?_ t_nil
            refine x_call (R := fun v wa wb => ∃ A c, v = .agg #[.string (⟨#[85, 78, 84]⟩), .slice A 2 c] ∧ sliceRd (tySlice tyStr) (fun b => wa.heap.size ≤ b) wb (.slice A 2 c) [[⟨#[55]⟩], [⟨#[49]⟩]]) rfl rfl rfl Tryz.func36 (by kernel_rfl) rfl (fun w1 hw1 => (c_one (es := [⟨#[55]⟩, ⟨#[49]⟩]) (D := fun _ => True) ⟨#[85, 78, 84]⟩ w1 (lits_own (T := tyStr) (D := fun _ => True) (e := 9) (b := p29) [[Value.string (⟨#[55]⟩)], [Value.string (⟨#[49]⟩)]] (xs := [⟨#[55]⟩, ⟨#[49]⟩]) hw1 (by repeat (first | exact List.Mem.head _ | apply List.Mem.tail)) rfl (by simp) trivial ⟨⟨rfl, (okS_small (by decide))⟩, ⟨rfl, (okS_small (by decide))⟩, trivial⟩) (by simp)).mono fun e w2 ⟨u, h1, h2, h3⟩ => seg_out h1 h2 h3) ?_
            intro v30 wa30 wb30 hm30 hl30 hR30
            obtain ⟨A30, c30, rfl, hs30⟩ := hR30
            refine x_end ?_
            refine t_gr (Q := fun _ _ _ => False) ?_ t_nil
            refine x_buildSliceL (cs := ([[Value.string (⟨#[85, 78, 72]⟩), .slice A8 2 c8], [Value.string (⟨#[66, 71, 77]⟩), .slice A13 2 c13], [Value.string (⟨#[76, 73, 78]⟩), .slice A16 3 c16], [Value.string (⟨#[81, 84, 89]⟩), .slice A20 1 c20], [Value.string (⟨#[80, 82, 73]⟩), .slice A24 1 c24], [Value.string (⟨#[82, 70, 70]⟩), .slice A28 1 c28], [Value.string (⟨#[85, 78, 84]⟩), .slice A30 2 c30]] : List (List Value)).flatten) rfl rfl rfl Tryz.underlying29 sz49 zr49 rfl rfl rfl ?_
            intro p31
            refine x_end ?_
            refine t_flt (Q := fun _ _ _ => False) ?_
            refine x_val rfl rfl rfl (v_assign rfl) ?_
            refine x_end ?_
            refine t_done ?_
            refine x_end ?_
            refine t_norm ?_
            refine w_ret ?_
            refine ret1 rfl rfl (fun w' hm => ?_)
            rw [show orderR o = orderX o from by unfold orderR; rw [if_pos hw, orderP_X (wrO_nn hwr)]]
            exact ⟨_, rfl, hm.base (by simp), RdAll.rd (e := 49) (css := [[Value.string (⟨#[85, 78, 72]⟩), .slice A8 2 c8], [Value.string (⟨#[66, 71, 77]⟩), .slice A13 2 c13], [Value.string (⟨#[76, 73, 78]⟩), .slice A16 3 c16], [Value.string (⟨#[81, 84, 89]⟩), .slice A20 1 c20], [Value.string (⟨#[80, 82, 73]⟩), .slice A24 1 c24], [Value.string (⟨#[82, 70, 70]⟩), .slice A28 1 c28], [Value.string (⟨#[85, 78, 84]⟩), .slice A30 2 c30]]) (xs := orderX o) (.cons (tySeg_mk (x := ⟨⟨#[85, 78, 72]⟩, [[⟨#[49]⟩], [⟨#[79, 82, 68, 69, 82, 83]⟩, ⟨#[68]⟩, ⟨#[57, 54, 65]⟩, ⟨#[85, 78]⟩]]⟩) rfl (show (3 : Nat) ≤ 9223372036854775807 by decide) (hs8.keep (Kept.made hm (by repeat (first | exact List.Mem.head _ | apply List.Mem.tail)) hm8 (hm8.base (by simp)).size))) (.cons (tySeg_mk (x := ⟨⟨#[66, 71, 77]⟩, [[⟨#[50, 50, 48]⟩], [itoaS o.id]]⟩) rfl (show (3 : Nat) ≤ 9223372036854775807 by decide) (hs13.keep (Kept.made hm (by repeat (first | exact List.Mem.head _ | apply List.Mem.tail)) hm13 (hm13.base (by simp)).size))) (.cons (tySeg_mk (x := ⟨⟨#[76, 73, 78]⟩, [[itoaS 1], [⟨#[]⟩], [recT o.src o.num, ⟨#[83, 82, 86]⟩]]⟩) rfl (show (3 : Nat) ≤ 9223372036854775807 by decide) (hs16.keep (Kept.made hm (by repeat (first | exact List.Mem.head _ | apply List.Mem.tail)) hm16 (hm16.base (by simp)).size))) (.cons (tySeg_mk (x := ⟨⟨#[81, 84, 89]⟩, [[⟨#[50, 49]⟩, itoaS o.copies]]⟩) rfl (show (3 : Nat) ≤ 9223372036854775807 by decide) (hs20.keep (Kept.made hm (by repeat (first | exact List.Mem.head _ | apply List.Mem.tail)) hm20 (hm20.base (by simp)).size))) (.cons (tySeg_mk (x := ⟨⟨#[80, 82, 73]⟩, [[⟨#[65, 65, 65]⟩, itoaS o.price]]⟩) rfl (show (3 : Nat) ≤ 9223372036854775807 by decide) (hs24.keep (Kept.made hm (by repeat (first | exact List.Mem.head _ | apply List.Mem.tail)) hm24 (hm24.base (by simp)).size))) (.cons (tySeg_mk (x := ⟨⟨#[82, 70, 70]⟩, [[⟨#[66, 70, 78]⟩, itoaS o.fund]]⟩) rfl (show (3 : Nat) ≤ 9223372036854775807 by decide) (hs28.keep (Kept.made hm (by repeat (first | exact List.Mem.head _ | apply List.Mem.tail)) hm28 (hm28.base (by simp)).size))) (.cons (tySeg_mk (x := ⟨⟨#[85, 78, 84]⟩, [[⟨#[55]⟩], [⟨#[49]⟩]]⟩) rfl (show (3 : Nat) ≤ 9223372036854775807 by decide) (hs30.keep (Kept.made hm (by repeat (first | exact List.Mem.head _ | apply List.Mem.tail)) hm30 (hm30.base (by simp)).size))) (.nil)))))))) hm (.head _) (by repeat (first | exact List.Mem.head _ | apply List.Mem.tail)) rfl (show (7 : Nat) ≤ maxLen by decide), fun h => absurd (show (7 : Nat) = 0 from h) (by decide)⟩
          refine t_gr (Q := fun _ _ _ => False) ?_ t_nil
          refine x_buildSliceL (cs := [Value.string (⟨#[55]⟩), Value.string (⟨#[49]⟩)]) rfl rfl rfl Tryz.underlying54 sz9 zr9 rfl rfl rfl ?_
          intro p29
          refine x_end ?_
          refine t_gr (Q := fun _ _ _ => False) ?_ t_nil
          refine x_call (R := fun v wa wb => ∃ A c, v = .agg #[.string (⟨#[76, 73, 78]⟩), .slice A 3 c] ∧ sliceRd (tySlice tyStr) (fun b => wa.heap.size ≤ b) wb (.slice A 3 c) [[itoaS 1], [⟨#[]⟩], [recT o.src o.num, ⟨#[83, 82, 86]⟩]]) rfl rfl rfl Tryz.func37 (by kernel_rfl) rfl (fun w1 hw1 => (c_line 1 (o.src, o.num) w1 ⟨by decide, by unfold in64; decide⟩ ⟨n3, i3⟩ ⟨n4, i4⟩).mono fun e w2 ⟨u, h1, h2, h3⟩ => seg_out h1 h2 h3) ?_
          intro v16 wa16 wb16 hm16 hl16 hR16
          obtain ⟨A16, c16, rfl, hs16⟩ := hR16
          refine x_end ?_
          refine t_flt (Q := fun _ _ _ => False) ?_
          refine x_callv rfl rfl rfl Tryz.func21 (by kernel_rfl) rfl (fun w1 hw1 => c_Dec o.copies w1 n5 i5) ?_
          refine x_end ?_
          refine t_gr (Q := fun _ _ _ => False) ?_ t_nil
          refine x_call (R := fun v wa wb => ∃ A c, v = .agg #[.string (⟨#[81, 84, 89]⟩), .slice A 1 c] ∧ sliceRd (tySlice tyStr) (fun b => wa.heap.size ≤ b) wb (.slice A 1 c) [[⟨#[50, 49]⟩, itoaS o.copies]]) rfl rfl rfl Tryz.func38 (by kernel_rfl) rfl (fun w1 hw1 => (c_pair ⟨#[81, 84, 89]⟩ ⟨#[50, 49]⟩ (itoaS o.copies) w1 (okS_small (by decide)) (itoa_ok i5)).mono fun e w2 ⟨u, h1, h2, h3⟩ => seg_out h1 h2 h3) ?_
          intro v20 wa20 wb20 hm20 hl20 hR20
          obtain ⟨A20, c20, rfl, hs20⟩ := hR20
          refine x_end ?_
          refine t_flt (Q := fun _ _ _ => False) ?_
          refine x_callv rfl rfl rfl Tryz.func21 (by kernel_rfl) rfl (fun w1 hw1 => c_Dec o.price w1 n6 i6) ?_
          refine x_end ?_
          refine t_gr (Q := fun _ _ _ => False) ?_ t_nil
          refine x_call (R := fun v wa wb => ∃ A c, v = .agg #[.string (⟨#[80, 82, 73]⟩), .slice A 1 c] ∧ sliceRd (tySlice tyStr) (fun b => wa.heap.size ≤ b) wb (.slice A 1 c) [[⟨#[65, 65, 65]⟩, itoaS o.price]]) rfl rfl rfl Tryz.func38 (by kernel_rfl) rfl (fun w1 hw1 => (c_pair ⟨#[80, 82, 73]⟩ ⟨#[65, 65, 65]⟩ (itoaS o.price) w1 (okS_small (by decide)) (itoa_ok i6)).mono fun e w2 ⟨u, h1, h2, h3⟩ => seg_out h1 h2 h3) ?_
          intro v24 wa24 wb24 hm24 hl24 hR24
          obtain ⟨A24, c24, rfl, hs24⟩ := hR24
          refine x_end ?_
          refine t_flt (Q := fun _ _ _ => False) ?_
          refine x_callv rfl rfl rfl Tryz.func21 (by kernel_rfl) rfl (fun w1 hw1 => c_Dec o.fund w1 n2 i2) ?_
          refine x_end ?_
          refine t_gr (Q := fun _ _ _ => False) ?_ t_nil
          refine x_call (R := fun v wa wb => ∃ A c, v = .agg #[.string (⟨#[82, 70, 70]⟩), .slice A 1 c] ∧ sliceRd (tySlice tyStr) (fun b => wa.heap.size ≤ b) wb (.slice A 1 c) [[⟨#[66, 70, 78]⟩, itoaS o.fund]]) rfl rfl rfl Tryz.func38 (by kernel_rfl) rfl (fun w1 hw1 => (c_pair ⟨#[82, 70, 70]⟩ ⟨#[66, 70, 78]⟩ (itoaS o.fund) w1 (okS_small (by decide)) (itoa_ok i2)).mono fun e w2 ⟨u, h1, h2, h3⟩ => seg_out h1 h2 h3) ?_
          intro v28 wa28 wb28 hm28 hl28 hR28
          obtain ⟨A28, c28, rfl, hs28⟩ := hR28
          refine x_end ?_
          refine t_gr (Q := fun _ _ _ => False) ?_ t_nil
          refine x_call (R := fun v wa wb => ∃ A c, v = .agg #[.string (⟨#[85, 78, 84]⟩), .slice A 2 c] ∧ sliceRd (tySlice tyStr) (fun b => wa.heap.size ≤ b) wb (.slice A 2 c) [[⟨#[55]⟩], [⟨#[49]⟩]]) rfl rfl rfl Tryz.func36 (by kernel_rfl) rfl (fun w1 hw1 => (c_one (es := [⟨#[55]⟩, ⟨#[49]⟩]) (D := fun _ => True) ⟨#[85, 78, 84]⟩ w1 (lits_own (T := tyStr) (D := fun _ => True) (e := 9) (b := p29) [[Value.string (⟨#[55]⟩)], [Value.string (⟨#[49]⟩)]] (xs := [⟨#[55]⟩, ⟨#[49]⟩]) hw1 (by repeat (first | exact List.Mem.head _ | apply List.Mem.tail)) rfl (by simp) trivial ⟨⟨rfl, (okS_small (by decide))⟩, ⟨rfl, (okS_small (by decide))⟩, trivial⟩) (by simp)).mono fun e w2 ⟨u, h1, h2, h3⟩ => seg_out h1 h2 h3) ?_
          intro v30 wa30 wb30 hm30 hl30 hR30
          obtain ⟨A30, c30, rfl, hs30⟩ := hR30
          refine x_end ?_
          refine t_gr (Q := fun _ _ _ => False) ?_ t_nil
          refine x_buildSliceL (cs := ([[Value.string (⟨#[85, 78, 72]⟩), .slice A8 2 c8], [Value.string (⟨#[66, 71, 77]⟩), .slice A13 2 c13], [Value.string (⟨#[76, 73, 78]⟩), .slice A16 3 c16], [Value.string (⟨#[81, 84, 89]⟩), .slice A20 1 c20], [Value.string (⟨#[80, 82, 73]⟩), .slice A24 1 c24], [Value.string (⟨#[82, 70, 70]⟩), .slice A28 1 c28], [Value.string (⟨#[85, 78, 84]⟩), .slice A30 2 c30]] : List (List Value)).flatten) rfl rfl rfl Tryz.underlying29 sz49 zr49 rfl rfl rfl ?_
          intro p31
          refine x_end ?_
          refine t_flt (Q := fun _ _ _ => False) ?_
          refine x_val rfl rfl rfl (v_assign rfl) ?_
          refine x_end ?_
          refine t_done ?_
          refine x_end ?_
          refine t_norm ?_
          refine w_ret ?_
          refine ret1 rfl rfl (fun w' hm => ?_)
          rw [show orderR o = orderX o from by unfold orderR; rw [if_pos hw, orderP_X (wrO_nn hwr)]]
          exact ⟨_, rfl, hm.base (by simp), RdAll.rd (e := 49) (css := [[Value.string (⟨#[85, 78, 72]⟩), .slice A8 2 c8], [Value.string (⟨#[66, 71, 77]⟩), .slice A13 2 c13], [Value.string (⟨#[76, 73, 78]⟩), .slice A16 3 c16], [Value.string (⟨#[81, 84, 89]⟩), .slice A20 1 c20], [Value.string (⟨#[80, 82, 73]⟩), .slice A24 1 c24], [Value.string (⟨#[82, 70, 70]⟩), .slice A28 1 c28], [Value.string (⟨#[85, 78, 84]⟩), .slice A30 2 c30]]) (xs := orderX o) (.cons (tySeg_mk (x := ⟨⟨#[85, 78, 72]⟩, [[⟨#[49]⟩], [⟨#[79, 82, 68, 69, 82, 83]⟩, ⟨#[68]⟩, ⟨#[57, 54, 65]⟩, ⟨#[85, 78]⟩]]⟩) rfl (show (3 : Nat) ≤ 9223372036854775807 by decide) (hs8.keep (Kept.made hm (by repeat (first | exact List.Mem.head _ | apply List.Mem.tail)) hm8 (hm8.base (by simp)).size))) (.cons (tySeg_mk (x := ⟨⟨#[66, 71, 77]⟩, [[⟨#[50, 50, 48]⟩], [itoaS o.id]]⟩) rfl (show (3 : Nat) ≤ 9223372036854775807 by decide) (hs13.keep (Kept.made hm (by repeat (first | exact List.Mem.head _ | apply List.Mem.tail)) hm13 (hm13.base (by simp)).size))) (.cons (tySeg_mk (x := ⟨⟨#[76, 73, 78]⟩, [[itoaS 1], [⟨#[]⟩], [recT o.src o.num, ⟨#[83, 82, 86]⟩]]⟩) rfl (show (3 : Nat) ≤ 9223372036854775807 by decide) (hs16.keep (Kept.made hm (by repeat (first | exact List.Mem.head _ | apply List.Mem.tail)) hm16 (hm16.base (by simp)).size))) (.cons (tySeg_mk (x := ⟨⟨#[81, 84, 89]⟩, [[⟨#[50, 49]⟩, itoaS o.copies]]⟩) rfl (show (3 : Nat) ≤ 9223372036854775807 by decide) (hs20.keep (Kept.made hm (by repeat (first | exact List.Mem.head _ | apply List.Mem.tail)) hm20 (hm20.base (by simp)).size))) (.cons (tySeg_mk (x := ⟨⟨#[80, 82, 73]⟩, [[⟨#[65, 65, 65]⟩, itoaS o.price]]⟩) rfl (show (3 : Nat) ≤ 9223372036854775807 by decide) (hs24.keep (Kept.made hm (by repeat (first | exact List.Mem.head _ | apply List.Mem.tail)) hm24 (hm24.base (by simp)).size))) (.cons (tySeg_mk (x := ⟨⟨#[82, 70, 70]⟩, [[⟨#[66, 70, 78]⟩, itoaS o.fund]]⟩) rfl (show (3 : Nat) ≤ 9223372036854775807 by decide) (hs28.keep (Kept.made hm (by repeat (first | exact List.Mem.head _ | apply List.Mem.tail)) hm28 (hm28.base (by simp)).size))) (.cons (tySeg_mk (x := ⟨⟨#[85, 78, 84]⟩, [[⟨#[55]⟩], [⟨#[49]⟩]]⟩) rfl (show (3 : Nat) ≤ 9223372036854775807 by decide) (hs30.keep (Kept.made hm (by repeat (first | exact List.Mem.head _ | apply List.Mem.tail)) hm30 (hm30.base (by simp)).size))) (.nil)))))))) hm (.head _) (by repeat (first | exact List.Mem.head _ | apply List.Mem.tail)) rfl (show (7 : Nat) ≤ maxLen by decide), fun h => absurd (show (7 : Nat) = 0 from h) (by decide)⟩
        refine t_gr (Q := fun _ _ _ => False) ?_ t_nil
        refine x_buildSliceL (cs := [Value.string (⟨#[55]⟩), Value.string (⟨#[49]⟩)]) rfl rfl rfl Tryz.underlying54 sz9 zr9 rfl rfl rfl ?_
        intro p29
        refine x_end ?_
        refine t_gr (Q := fun _ _ _ => False) ?_ t_nil
        refine x_call (R := fun v wa wb => ∃ A c, v = .agg #[.string (⟨#[66, 71, 77]⟩), .slice A 2 c] ∧ sliceRd (tySlice tyStr) (fun b => wa.heap.size ≤ b) wb (.slice A 2 c) [[⟨#[50, 50, 48]⟩], [itoaS o.id]]) rfl rfl rfl Tryz.func36 (by kernel_rfl) rfl (fun w1 hw1 => (c_one (es := [⟨#[50, 50, 48]⟩, itoaS o.id]) (D := fun _ => True) ⟨#[66, 71, 77]⟩ w1 (lits_own (T := tyStr) (D := fun _ => True) (e := 9) (b := p12) [[Value.string (⟨#[50, 50, 48]⟩)], [Value.string (itoaS o.id)]] (xs := [⟨#[50, 50, 48]⟩, itoaS o.id]) hw1 (by repeat (first | exact List.Mem.head _ | apply List.Mem.tail)) rfl (by simp) trivial ⟨⟨rfl, (okS_small (by decide))⟩, ⟨rfl, itoa_ok i1⟩, trivial⟩) (by simp)).mono fun e w2 ⟨u, h1, h2, h3⟩ => seg_out h1 h2 h3) ?_
        intro v13 wa13 wb13 hm13 hl13 hR13
        obtain ⟨A13, c13, rfl, hs13⟩ := hR13
        refine x_end ?_
        refine t_gr (Q := fun _ _ _ => False) ?_ t_nil
        refine x_call (R := fun v wa wb => ∃ A c, v = .agg #[.string (⟨#[76, 73, 78]⟩), .slice A 3 c] ∧ sliceRd (tySlice tyStr) (fun b => wa.heap.size ≤ b) wb (.slice A 3 c) [[itoaS 1], [⟨#[]⟩], [recT o.src o.num, ⟨#[83, 82, 86]⟩]]) rfl rfl rfl Tryz.func37 (by kernel_rfl) rfl (fun w1 hw1 => (c_line 1 (o.src, o.num) w1 ⟨by decide, by unfold in64; decide⟩ ⟨n3, i3⟩ ⟨n4, i4⟩).mono fun e w2 ⟨u, h1, h2, h3⟩ => seg_out h1 h2 h3) ?_
        intro v16 wa16 wb16 hm16 hl16 hR16
        obtain ⟨A16, c16, rfl, hs16⟩ := hR16
        refine x_end ?_
        refine t_flt (Q := fun _ _ _ => False) ?_
        refine x_callv rfl rfl rfl Tryz.func21 (by kernel_rfl) rfl (fun w1 hw1 => c_Dec o.copies w1 n5 i5) ?_
        refine x_end ?_
        refine t_gr (Q := fun _ _ _ => False) ?_ t_nil
        refine x_call (R := fun v wa wb => ∃ A c, v = .agg #[.string (⟨#[81, 84, 89]⟩), .slice A 1 c] ∧ sliceRd (tySlice tyStr) (fun b => wa.heap.size ≤ b) wb (.slice A 1 c) [[⟨#[50, 49]⟩, itoaS o.copies]]) rfl rfl rfl Tryz.func38 (by kernel_rfl) rfl (fun w1 hw1 => (c_pair ⟨#[81, 84, 89]⟩ ⟨#[50, 49]⟩ (itoaS o.copies) w1 (okS_small (by decide)) (itoa_ok i5)).mono fun e w2 ⟨u, h1, h2, h3⟩ => seg_out h1 h2 h3) ?_
        intro v20 wa20 wb20 hm20 hl20 hR20
        obtain ⟨A20, c20, rfl, hs20⟩ := hR20
        refine x_end ?_
        refine t_flt (Q := fun _ _ _ => False) ?_
        refine x_callv rfl rfl rfl Tryz.func21 (by kernel_rfl) rfl (fun w1 hw1 => c_Dec o.price w1 n6 i6) ?_
        refine x_end ?_
        refine t_gr (Q := fun _ _ _ => False) ?_ t_nil
        refine x_call (R := fun v wa wb => ∃ A c, v = .agg #[.string (⟨#[80, 82, 73]⟩), .slice A 1 c] ∧ sliceRd (tySlice tyStr) (fun b => wa.heap.size ≤ b) wb (.slice A 1 c) [[⟨#[65, 65, 65]⟩, itoaS o.price]]) rfl rfl rfl Tryz.func38 (by kernel_rfl) rfl (fun w1 hw1 => (c_pair ⟨#[80, 82, 73]⟩ ⟨#[65, 65, 65]⟩ (itoaS o.price) w1 (okS_small (by decide)) (itoa_ok i6)).mono fun e w2 ⟨u, h1, h2, h3⟩ => seg_out h1 h2 h3) ?_
        intro v24 wa24 wb24 hm24 hl24 hR24
        obtain ⟨A24, c24, rfl, hs24⟩ := hR24
        refine x_end ?_
        refine t_flt (Q := fun _ _ _ => False) ?_
        refine x_callv rfl rfl rfl Tryz.func21 (by kernel_rfl) rfl (fun w1 hw1 => c_Dec o.fund w1 n2 i2) ?_
        refine x_end ?_
        refine t_gr (Q := fun _ _ _ => False) ?_ t_nil
        refine x_call (R := fun v wa wb => ∃ A c, v = .agg #[.string (⟨#[82, 70, 70]⟩), .slice A 1 c] ∧ sliceRd (tySlice tyStr) (fun b => wa.heap.size ≤ b) wb (.slice A 1 c) [[⟨#[66, 70, 78]⟩, itoaS o.fund]]) rfl rfl rfl Tryz.func38 (by kernel_rfl) rfl (fun w1 hw1 => (c_pair ⟨#[82, 70, 70]⟩ ⟨#[66, 70, 78]⟩ (itoaS o.fund) w1 (okS_small (by decide)) (itoa_ok i2)).mono fun e w2 ⟨u, h1, h2, h3⟩ => seg_out h1 h2 h3) ?_
        intro v28 wa28 wb28 hm28 hl28 hR28
        obtain ⟨A28, c28, rfl, hs28⟩ := hR28
        refine x_end ?_
        refine t_gr (Q := fun _ _ _ => False) ?_ t_nil
        refine x_call (R := fun v wa wb => ∃ A c, v = .agg #[.string (⟨#[85, 78, 84]⟩), .slice A 2 c] ∧ sliceRd (tySlice tyStr) (fun b => wa.heap.size ≤ b) wb (.slice A 2 c) [[⟨#[55]⟩], [⟨#[49]⟩]]) rfl rfl rfl Tryz.func36 (by kernel_rfl) rfl (fun w1 hw1 => (c_one (es := [⟨#[55]⟩, ⟨#[49]⟩]) (D := fun _ => True) ⟨#[85, 78, 84]⟩ w1 (lits_own (T := tyStr) (D := fun _ => True) (e := 9) (b := p29) [[Value.string (⟨#[55]⟩)], [Value.string (⟨#[49]⟩)]] (xs := [⟨#[55]⟩, ⟨#[49]⟩]) hw1 (by repeat (first | exact List.Mem.head _ | apply List.Mem.tail)) rfl (by simp) trivial ⟨⟨rfl, (okS_small (by decide))⟩, ⟨rfl, (okS_small (by decide))⟩, trivial⟩) (by simp)).mono fun e w2 ⟨u, h1, h2, h3⟩ => seg_out h1 h2 h3) ?_
        intro v30 wa30 wb30 hm30 hl30 hR30
        obtain ⟨A30, c30, rfl, hs30⟩ := hR30
        refine x_end ?_
        refine t_gr (Q := fun _ _ _ => False) ?_ t_nil
        refine x_buildSliceL (cs := ([[Value.string (⟨#[85, 78, 72]⟩), .slice A8 2 c8], [Value.string (⟨#[66, 71, 77]⟩), .slice A13 2 c13], [Value.string (⟨#[76, 73, 78]⟩), .slice A16 3 c16], [Value.string (⟨#[81, 84, 89]⟩), .slice A20 1 c20], [Value.string (⟨#[80, 82, 73]⟩), .slice A24 1 c24], [Value.string (⟨#[82, 70, 70]⟩), .slice A28 1 c28], [Value.string (⟨#[85, 78, 84]⟩), .slice A30 2 c30]] : List (List Value)).flatten) rfl rfl rfl Tryz.underlying29 sz49 zr49 rfl rfl rfl ?_
        intro p31
        refine x_end ?_
        refine t_flt (Q := fun _ _ _ => False) ?_
        refine x_val rfl rfl rfl (v_assign rfl) ?_
        refine x_end ?_
        refine t_done ?_
        refine x_end ?_
        refine t_norm ?_
        refine w_ret ?_
        refine ret1 rfl rfl (fun w' hm => ?_)
        rw [show orderR o = orderX o from by unfold orderR; rw [if_pos hw, orderP_X (wrO_nn hwr)]]
        exact ⟨_, rfl, hm.base (by simp), RdAll.rd (e := 49) (css := [[Value.string (⟨#[85, 78, 72]⟩), .slice A8 2 c8], [Value.string (⟨#[66, 71, 77]⟩), .slice A13 2 c13], [Value.string (⟨#[76, 73, 78]⟩), .slice A16 3 c16], [Value.string (⟨#[81, 84, 89]⟩), .slice A20 1 c20], [Value.string (⟨#[80, 82, 73]⟩), .slice A24 1 c24], [Value.string (⟨#[82, 70, 70]⟩), .slice A28 1 c28], [Value.string (⟨#[85, 78, 84]⟩), .slice A30 2 c30]]) (xs := orderX o) (.cons (tySeg_mk (x := ⟨⟨#[85, 78, 72]⟩, [[⟨#[49]⟩], [⟨#[79, 82, 68, 69, 82, 83]⟩, ⟨#[68]⟩, ⟨#[57, 54, 65]⟩, ⟨#[85, 78]⟩]]⟩) rfl (show (3 : Nat) ≤ 9223372036854775807 by decide) (hs8.keep (Kept.made hm (by repeat (first | exact List.Mem.head _ | apply List.Mem.tail)) hm8 (hm8.base (by simp)).size))) (.cons (tySeg_mk (x := ⟨⟨#[66, 71, 77]⟩, [[⟨#[50, 50, 48]⟩], [itoaS o.id]]⟩) rfl (show (3 : Nat) ≤ 9223372036854775807 by decide) (hs13.keep (Kept.made hm (by repeat (first | exact List.Mem.head _ | apply List.Mem.tail)) hm13 (hm13.base (by simp)).size))) (.cons (tySeg_mk (x := ⟨⟨#[76, 73, 78]⟩, [[itoaS 1], [⟨#[]⟩], [recT o.src o.num, ⟨#[83, 82, 86]⟩]]⟩) rfl (show (3 : Nat) ≤ 9223372036854775807 by decide) (hs16.keep (Kept.made hm (by repeat (first | exact List.Mem.head _ | apply List.Mem.tail)) hm16 (hm16.base (by simp)).size))) (.cons (tySeg_mk (x := ⟨⟨#[81, 84, 89]⟩, [[⟨#[50, 49]⟩, itoaS o.copies]]⟩) rfl (show (3 : Nat) ≤ 9223372036854775807 by decide) (hs20.keep (Kept.made hm (by repeat (first | exact List.Mem.head _ | apply List.Mem.tail)) hm20 (hm20.base (by simp)).size))) (.cons (tySeg_mk (x := ⟨⟨#[80, 82, 73]⟩, [[⟨#[65, 65, 65]⟩, itoaS o.price]]⟩) rfl (show (3 : Nat) ≤ 9223372036854775807 by decide) (hs24.keep (Kept.made hm (by repeat (first | exact List.Mem.head _ | apply List.Mem.tail)) hm24 (hm24.base (by simp)).size))) (.cons (tySeg_mk (x := ⟨⟨#[82, 70, 70]⟩, [[⟨#[66, 70, 78]⟩, itoaS o.fund]]⟩) rfl (show (3 : Nat) ≤ 9223372036854775807 by decide) (hs28.keep (Kept.made hm (by repeat (first | exact List.Mem.head _ | apply List.Mem.tail)) hm28 (hm28.base (by simp)).size))) (.cons (tySeg_mk (x := ⟨⟨#[85, 78, 84]⟩, [[⟨#[55]⟩], [⟨#[49]⟩]]⟩) rfl (show (3 : Nat) ≤ 9223372036854775807 by decide) (hs30.keep (Kept.made hm (by repeat (first | exact List.Mem.head _ | apply List.Mem.tail)) hm30 (hm30.base (by simp)).size))) (.nil)))))))) hm (.head _) (by repeat (first | exact List.Mem.head _ | apply List.Mem.tail)) rfl (show (7 : Nat) ≤ maxLen by decide), fun h => absurd (show (7 : Nat) = 0 from h) (by decide)⟩
      refine t_gr (Q := fun _ _ _ => False) ?_ t_nil
      refine x_buildSliceL (cs := [Value.string (⟨#[55]⟩), Value.string (⟨#[49]⟩)]) rfl rfl rfl Tryz.underlying54 sz9 zr9 rfl rfl rfl ?_
      intro p29
      refine x_end ?_
      refine t_gr (Q := fun _ _ _ => False) ?_ t_nil
      refine x_buildSliceL (cs := [Value.string (⟨#[50, 50, 48]⟩), Value.string (itoaS o.id)]) rfl rfl rfl Tryz.underlying54 sz9 zr9 rfl rfl rfl ?_
      intro p12
      refine x_end ?_
      refine t_gr (Q := fun _ _ _ => False) ?_ t_nil
      refine x_call (R := fun v wa wb => ∃ A c, v = .agg #[.string (⟨#[66, 71, 77]⟩), .slice A 2 c] ∧ sliceRd (tySlice tyStr) (fun b => wa.heap.size ≤ b) wb (.slice A 2 c) [[⟨#[50, 50, 48]⟩], [itoaS o.id]]) rfl rfl rfl Tryz.func36 (by kernel_rfl) rfl (fun w1 hw1 => (c_one (es := [⟨#[50, 50, 48]⟩, itoaS o.id]) (D := fun _ => True) ⟨#[66, 71, 77]⟩ w1 (lits_own (T := tyStr) (D := fun _ => True) (e := 9) (b := p12) [[Value.string (⟨#[50, 50, 48]⟩)], [Value.string (itoaS o.id)]] (xs := [⟨#[50, 50, 48]⟩, itoaS o.id]) hw1 (by repeat (first | exact List.Mem.head _ | apply List.Mem.tail)) rfl (by simp) trivial ⟨⟨rfl, (okS_small (by decide))⟩, ⟨rfl, itoa_ok i1⟩, trivial⟩) (by simp)).mono fun e w2 ⟨u, h1, h2, h3⟩ => seg_out h1 h2 h3) ?_
      intro v13 wa13 wb13 hm13 hl13 hR13
      obtain ⟨A13, c13, rfl, hs13⟩ := hR13
      refine x_end ?_
      refine t_gr (Q := fun _ _ _ => False) ?_ t_nil
      refine x_call (R := fun v wa wb => ∃ A c, v = .agg #[.string (⟨#[76, 73, 78]⟩), .slice A 3 c] ∧ sliceRd (tySlice tyStr) (fun b => wa.heap.size ≤ b) wb (.slice A 3 c) [[itoaS 1], [⟨#[]⟩], [recT o.src o.num, ⟨#[83, 82, 86]⟩]]) rfl rfl rfl Tryz.func37 (by kernel_rfl) rfl (fun w1 hw1 => (c_line 1 (o.src, o.num) w1 ⟨by decide, by unfold in64; decide⟩ ⟨n3, i3⟩ ⟨n4, i4⟩).mono fun e w2 ⟨u, h1, h2, h3⟩ => seg_out h1 h2 h3) ?_
      intro v16 wa16 wb16 hm16 hl16 hR16
      obtain ⟨A16, c16, rfl, hs16⟩ := hR16
      refine x_end ?_
      refine t_flt (Q := fun _ _ _ => False) ?_
      refine x_callv rfl rfl rfl Tryz.func21 (by kernel_rfl) rfl (fun w1 hw1 => c_Dec o.copies w1 n5 i5) ?_
      refine x_end ?_
      refine t_gr (Q := fun _ _ _ => False) ?_ t_nil
      refine x_call (R := fun v wa wb => ∃ A c, v = .agg #[.string (⟨#[81, 84, 89]⟩), .slice A 1 c] ∧ sliceRd (tySlice tyStr) (fun b => wa.heap.size ≤ b) wb (.slice A 1 c) [[⟨#[50, 49]⟩, itoaS o.copies]]) rfl rfl rfl Tryz.func38 (by kernel_rfl) rfl (fun w1 hw1 => (c_pair ⟨#[81, 84, 89]⟩ ⟨#[50, 49]⟩ (itoaS o.copies) w1 (okS_small (by decide)) (itoa_ok i5)).mono fun e w2 ⟨u, h1, h2, h3⟩ => seg_out h1 h2 h3) ?_
      intro v20 wa20 wb20 hm20 hl20 hR20
      obtain ⟨A20, c20, rfl, hs20⟩ := hR20
      refine x_end ?_
      refine t_flt (Q := fun _ _ _ => False) ?_
      refine x_callv rfl rfl rfl Tryz.func21 (by kernel_rfl) rfl (fun w1 hw1 => c_Dec o.price w1 n6 i6) ?_
      refine x_end ?_
      refine t_gr (Q := fun _ _ _ => False) ?_ t_nil
      refine x_call (R := fun v wa wb => ∃ A c, v = .agg #[.string (⟨#[80, 82, 73]⟩), .slice A 1 c] ∧ sliceRd (tySlice tyStr) (fun b => wa.heap.size ≤ b) wb (.slice A 1 c) [[⟨#[65, 65, 65]⟩, itoaS o.price]]) rfl rfl rfl Tryz.func38 (by kernel_rfl) rfl (fun w1 hw1 => (c_pair ⟨#[80, 82, 73]⟩ ⟨#[65, 65, 65]⟩ (itoaS o.price) w1 (okS_small (by decide)) (itoa_ok i6)).mono fun e w2 ⟨u, h1, h2, h3⟩ => seg_out h1 h2 h3) ?_
      intro v24 wa24 wb24 hm24 hl24 hR24
      obtain ⟨A24, c24, rfl, hs24⟩ := hR24
      refine x_end ?_
      refine t_flt (Q := fun _ _ _ => False) ?_
      refine x_callv rfl rfl rfl Tryz.func21 (by kernel_rfl) rfl (fun w1 hw1 => c_Dec o.fund w1 n2 i2) ?_
      refine x_end ?_
      refine t_gr (Q := fun _ _ _ => False) ?_ t_nil
      refine x_call (R := fun v wa wb => ∃ A c, v = .agg #[.string (⟨#[82, 70, 70]⟩), .slice A 1 c] ∧ sliceRd (tySlice tyStr) (fun b => wa.heap.size ≤ b) wb (.slice A 1 c) [[⟨#[66, 70, 78]⟩, itoaS o.fund]]) rfl rfl rfl Tryz.func38 (by kernel_rfl) rfl (fun w1 hw1 => (c_pair ⟨#[82, 70, 70]⟩ ⟨#[66, 70, 78]⟩ (itoaS o.fund) w1 (okS_small (by decide)) (itoa_ok i2)).mono fun e w2 ⟨u, h1, h2, h3⟩ => seg_out h1 h2 h3) ?_
      intro v28 wa28 wb28 hm28 hl28 hR28
      obtain ⟨A28, c28, rfl, hs28⟩ := hR28
      refine x_end ?_
      refine t_gr (Q := fun _ _ _ => False) ?_ t_nil
      refine x_call (R := fun v wa wb => ∃ A c, v = .agg #[.string (⟨#[85, 78, 84]⟩), .slice A 2 c] ∧ sliceRd (tySlice tyStr) (fun b => wa.heap.size ≤ b) wb (.slice A 2 c) [[⟨#[55]⟩], [⟨#[49]⟩]]) rfl rfl rfl Tryz.func36 (by kernel_rfl) rfl (fun w1 hw1 => (c_one (es := [⟨#[55]⟩, ⟨#[49]⟩]) (D := fun _ => True) ⟨#[85, 78, 84]⟩ w1 (lits_own (T := tyStr) (D := fun _ => True) (e := 9) (b := p29) [[Value.string (⟨#[55]⟩)], [Value.string (⟨#[49]⟩)]] (xs := [⟨#[55]⟩, ⟨#[49]⟩]) hw1 (by repeat (first | exact List.Mem.head _ | apply List.Mem.tail)) rfl (by simp) trivial ⟨⟨rfl, (okS_small (by decide))⟩, ⟨rfl, (okS_small (by decide))⟩, trivial⟩) (by simp)).mono fun e w2 ⟨u, h1, h2, h3⟩ => seg_out h1 h2 h3) ?_
      intro v30 wa30 wb30 hm30 hl30 hR30
      obtain ⟨A30, c30, rfl, hs30⟩ := hR30
      refine x_end ?_
      refine t_gr (Q := fun _ _ _ => False) ?_ t_nil
      refine x_buildSliceL (cs := ([[Value.string (⟨#[85, 78, 72]⟩), .slice A8 2 c8], [Value.string (⟨#[66, 71, 77]⟩), .slice A13 2 c13], [Value.string (⟨#[76, 73, 78]⟩), .slice A16 3 c16], [Value.string (⟨#[81, 84, 89]⟩), .slice A20 1 c20], [Value.string (⟨#[80, 82, 73]⟩), .slice A24 1 c24], [Value.string (⟨#[82, 70, 70]⟩), .slice A28 1 c28], [Value.string (⟨#[85, 78, 84]⟩), .slice A30 2 c30]] : List (List Value)).flatten) rfl rfl rfl Tryz.underlying29 sz49 zr49 rfl rfl rfl ?_
      intro p31
      refine x_end ?_
      refine t_flt (Q := fun _ _ _ => False) ?_
      refine x_val rfl rfl rfl (v_assign rfl) ?_
      refine x_end ?_
      refine t_done ?_
      refine x_end ?_
      refine t_norm ?_
      refine w_ret ?_
      refine ret1 rfl rfl (fun w' hm => ?_)
      rw [show orderR o = orderX o from by unfold orderR; rw [if_pos hw, orderP_X (wrO_nn hwr)]]
      exact ⟨_, rfl, hm.base (by simp), RdAll.rd (e := 49) (css := [[Value.string (⟨#[85, 78, 72]⟩), .slice A8 2 c8], [Value.string (⟨#[66, 71, 77]⟩), .slice A13 2 c13], [Value.string (⟨#[76, 73, 78]⟩), .slice A16 3 c16], [Value.string (⟨#[81, 84, 89]⟩), .slice A20 1 c20], [Value.string (⟨#[80, 82, 73]⟩), .slice A24 1 c24], [Value.string (⟨#[82, 70, 70]⟩), .slice A28 1 c28], [Value.string (⟨#[85, 78, 84]⟩), .slice A30 2 c30]]) (xs := orderX o) (.cons (tySeg_mk (x := ⟨⟨#[85, 78, 72]⟩, [[⟨#[49]⟩], [⟨#[79, 82, 68, 69, 82, 83]⟩, ⟨#[68]⟩, ⟨#[57, 54, 65]⟩, ⟨#[85, 78]⟩]]⟩) rfl (show (3 : Nat) ≤ 9223372036854775807 by decide) (hs8.keep (Kept.made hm (by repeat (first | exact List.Mem.head _ | apply List.Mem.tail)) hm8 (hm8.base (by simp)).size))) (.cons (tySeg_mk (x := ⟨⟨#[66, 71, 77]⟩, [[⟨#[50, 50, 48]⟩], [itoaS o.id]]⟩) rfl (show (3 : Nat) ≤ 9223372036854775807 by decide) (hs13.keep (Kept.made hm (by repeat (first | exact List.Mem.head _ | apply List.Mem.tail)) hm13 (hm13.base (by simp)).size))) (.cons (tySeg_mk (x := ⟨⟨#[76, 73, 78]⟩, [[itoaS 1], [⟨#[]⟩], [recT o.src o.num, ⟨#[83, 82, 86]⟩]]⟩) rfl (show (3 : Nat) ≤ 9223372036854775807 by decide) (hs16.keep (Kept.made hm (by repeat (first | exact List.Mem.head _ | apply List.Mem.tail)) hm16 (hm16.base (by simp)).size))) (.cons (tySeg_mk (x := ⟨⟨#[81, 84, 89]⟩, [[⟨#[50, 49]⟩, itoaS o.copies]]⟩) rfl (show (3 : Nat) ≤ 9223372036854775807 by decide) (hs20.keep (Kept.made hm (by repeat (first | exact List.Mem.head _ | apply List.Mem.tail)) hm20 (hm20.base (by simp)).size))) (.cons (tySeg_mk (x := ⟨⟨#[80, 82, 73]⟩, [[⟨#[65, 65, 65]⟩, itoaS o.price]]⟩) rfl (show (3 : Nat) ≤ 9223372036854775807 by decide) (hs24.keep (Kept.made hm (by repeat (first | exact List.Mem.head _ | apply List.Mem.tail)) hm24 (hm24.base (by simp)).size))) (.cons (tySeg_mk (x := ⟨⟨#[82, 70, 70]⟩, [[⟨#[66, 70, 78]⟩, itoaS o.fund]]⟩) rfl (show (3 : Nat) ≤ 9223372036854775807 by decide) (hs28.keep (Kept.made hm (by repeat (first | exact List.Mem.head _ | apply List.Mem.tail)) hm28 (hm28.base (by simp)).size))) (.cons (tySeg_mk (x := ⟨⟨#[85, 78, 84]⟩, [[⟨#[55]⟩], [⟨#[49]⟩]]⟩) rfl (show (3 : Nat) ≤ 9223372036854775807 by decide) (hs30.keep (Kept.made hm (by repeat (first | exact List.Mem.head _ | apply List.Mem.tail)) hm30 (hm30.base (by simp)).size))) (.nil)))))))) hm (.head _) (by repeat (first | exact List.Mem.head _ | apply List.Mem.tail)) rfl (show (7 : Nat) ≤ maxLen by decide), fun h => absurd (show (7 : Nat) = 0 from h) (by decide)⟩
    refine t_gr (Q := fun _ _ _ => False) ?_ t_nil
    refine x_buildSliceL (cs := [Value.string (⟨#[55]⟩), Value.string (⟨#[49]⟩)]) rfl rfl rfl Tryz.underlying54 sz9 zr9 rfl rfl rfl ?_
    intro p29
    refine x_end ?_
    refine t_gr (Q := fun _ _ _ => False) ?_ t_nil
    refine x_call (R := fun v wa wb => ∃ A c, v = .agg #[.string (⟨#[85, 78, 72]⟩), .slice A 2 c] ∧ sliceRd (tySlice tyStr) (fun b => wa.heap.size ≤ b) wb (.slice A 2 c) [[⟨#[49]⟩], [⟨#[79, 82, 68, 69, 82, 83]⟩, ⟨#[68]⟩, ⟨#[57, 54, 65]⟩, ⟨#[85, 78]⟩]]) rfl rfl rfl Tryz.func35 (by kernel_rfl) rfl (fun w1 hw1 => (c_header ⟨#[79, 82, 68, 69, 82, 83]⟩ w1 (okS_small (by decide))).mono fun e w2 ⟨u, h1, h2, h3⟩ => seg_out h1 h2 h3) ?_
    intro v8 wa8 wb8 hm8 hl8 hR8
    obtain ⟨A8, c8, rfl, hs8⟩ := hR8
    refine x_end ?_
    refine t_flt (Q := fun _ _ _ => False) ?_
    refine x_callv rfl rfl rfl Tryz.func21 (by kernel_rfl) rfl (fun w1 hw1 => c_Dec o.id w1 n1 i1) ?_
    refine x_end ?_
    refine t_gr (Q := fun _ _ _ => False) ?_ t_nil
    refine x_buildSliceL (cs := [Value.string (⟨#[50, 50, 48]⟩), Value.string (itoaS o.id)]) rfl rfl rfl Tryz.underlying54 sz9 zr9 rfl rfl rfl ?_
    intro p12
    refine x_end ?_
    refine t_gr (Q := fun _ _ _ => False) ?_ t_nil
    refine x_call (R := fun v wa wb => ∃ A c, v = .agg #[.string (⟨#[66, 71, 77]⟩), .slice A 2 c] ∧ sliceRd (tySlice tyStr) (fun b => wa.heap.size ≤ b) wb (.slice A 2 c) [[⟨#[50, 50, 48]⟩], [itoaS o.id]]) rfl rfl rfl Tryz.func36 (by kernel_rfl) rfl (fun w1 hw1 => (c_one (es := [⟨#[50, 50, 48]⟩, itoaS o.id]) (D := fun _ => True) ⟨#[66, 71, 77]⟩ w1 (lits_own (T := tyStr) (D := fun _ => True) (e := 9) (b := p12) [[Value.string (⟨#[50, 50, 48]⟩)], [Value.string (itoaS o.id)]] (xs := [⟨#[50, 50, 48]⟩, itoaS o.id]) hw1 (by repeat (first | exact List.Mem.head _ | apply List.Mem.tail)) rfl (by simp) trivial ⟨⟨rfl, (okS_small (by decide))⟩, ⟨rfl, itoa_ok i1⟩, trivial⟩) (by simp)).mono fun e w2 ⟨u, h1, h2, h3⟩ => seg_out h1 h2 h3) ?_
    intro v13 wa13 wb13 hm13 hl13 hR13
    obtain ⟨A13, c13, rfl, hs13⟩ := hR13
    refine x_end ?_
    refine t_gr (Q := fun _ _ _ => False) ?_ t_nil
    refine x_call (R := fun v wa wb => ∃ A c, v = .agg #[.string (⟨#[76, 73, 78]⟩), .slice A 3 c] ∧ sliceRd (tySlice tyStr) (fun b => wa.heap.size ≤ b) wb (.slice A 3 c) [[itoaS 1], [⟨#[]⟩], [recT o.src o.num, ⟨#[83, 82, 86]⟩]]) rfl rfl rfl Tryz.func37 (by kernel_rfl) rfl (fun w1 hw1 => (c_line 1 (o.src, o.num) w1 ⟨by decide, by unfold in64; decide⟩ ⟨n3, i3⟩ ⟨n4, i4⟩).mono fun e w2 ⟨u, h1, h2, h3⟩ => seg_out h1 h2 h3) ?_
    intro v16 wa16 wb16 hm16 hl16 hR16
    obtain ⟨A16, c16, rfl, hs16⟩ := hR16
    refine x_end ?_
    refine t_flt (Q := fun _ _ _ => False) ?_
    refine x_callv rfl rfl rfl Tryz.func21 (by kernel_rfl) rfl (fun w1 hw1 => c_Dec o.copies w1 n5 i5) ?_
    refine x_end ?_
    refine t_gr (Q := fun _ _ _ => False) ?_ t_nil
    refine x_call (R := fun v wa wb => ∃ A c, v = .agg #[.string (⟨#[81, 84, 89]⟩), .slice A 1 c] ∧ sliceRd (tySlice tyStr) (fun b => wa.heap.size ≤ b) wb (.slice A 1 c) [[⟨#[50, 49]⟩, itoaS o.copies]]) rfl rfl rfl Tryz.func38 (by kernel_rfl) rfl (fun w1 hw1 => (c_pair ⟨#[81, 84, 89]⟩ ⟨#[50, 49]⟩ (itoaS o.copies) w1 (okS_small (by decide)) (itoa_ok i5)).mono fun e w2 ⟨u, h1, h2, h3⟩ => seg_out h1 h2 h3) ?_
    intro v20 wa20 wb20 hm20 hl20 hR20
    obtain ⟨A20, c20, rfl, hs20⟩ := hR20
    refine x_end ?_
    refine t_flt (Q := fun _ _ _ => False) ?_
    refine x_callv rfl rfl rfl Tryz.func21 (by kernel_rfl) rfl (fun w1 hw1 => c_Dec o.price w1 n6 i6) ?_
    refine x_end ?_
    refine t_gr (Q := fun _ _ _ => False) ?_ t_nil
    refine x_call (R := fun v wa wb => ∃ A c, v = .agg #[.string (⟨#[80, 82, 73]⟩), .slice A 1 c] ∧ sliceRd (tySlice tyStr) (fun b => wa.heap.size ≤ b) wb (.slice A 1 c) [[⟨#[65, 65, 65]⟩, itoaS o.price]]) rfl rfl rfl Tryz.func38 (by kernel_rfl) rfl (fun w1 hw1 => (c_pair ⟨#[80, 82, 73]⟩ ⟨#[65, 65, 65]⟩ (itoaS o.price) w1 (okS_small (by decide)) (itoa_ok i6)).mono fun e w2 ⟨u, h1, h2, h3⟩ => seg_out h1 h2 h3) ?_
    intro v24 wa24 wb24 hm24 hl24 hR24
    obtain ⟨A24, c24, rfl, hs24⟩ := hR24
    refine x_end ?_
    refine t_flt (Q := fun _ _ _ => False) ?_
    refine x_callv rfl rfl rfl Tryz.func21 (by kernel_rfl) rfl (fun w1 hw1 => c_Dec o.fund w1 n2 i2) ?_
    refine x_end ?_
    refine t_gr (Q := fun _ _ _ => False) ?_ t_nil
    refine x_call (R := fun v wa wb => ∃ A c, v = .agg #[.string (⟨#[82, 70, 70]⟩), .slice A 1 c] ∧ sliceRd (tySlice tyStr) (fun b => wa.heap.size ≤ b) wb (.slice A 1 c) [[⟨#[66, 70, 78]⟩, itoaS o.fund]]) rfl rfl rfl Tryz.func38 (by kernel_rfl) rfl (fun w1 hw1 => (c_pair ⟨#[82, 70, 70]⟩ ⟨#[66, 70, 78]⟩ (itoaS o.fund) w1 (okS_small (by decide)) (itoa_ok i2)).mono fun e w2 ⟨u, h1, h2, h3⟩ => seg_out h1 h2 h3) ?_
    intro v28 wa28 wb28 hm28 hl28 hR28
    obtain ⟨A28, c28, rfl, hs28⟩ := hR28
    refine x_end ?_
    refine t_gr (Q := fun _ _ _ => False) ?_ t_nil
    refine x_call (R := fun v wa wb => ∃ A c, v = .agg #[.string (⟨#[85, 78, 84]⟩), .slice A 2 c] ∧ sliceRd (tySlice tyStr) (fun b => wa.heap.size ≤ b) wb (.slice A 2 c) [[⟨#[55]⟩], [⟨#[49]⟩]]) rfl rfl rfl Tryz.func36 (by kernel_rfl) rfl (fun w1 hw1 => (c_one (es := [⟨#[55]⟩, ⟨#[49]⟩]) (D := fun _ => True) ⟨#[85, 78, 84]⟩ w1 (lits_own (T := tyStr) (D := fun _ => True) (e := 9) (b := p29) [[Value.string (⟨#[55]⟩)], [Value.string (⟨#[49]⟩)]] (xs := [⟨#[55]⟩, ⟨#[49]⟩]) hw1 (by repeat (first | exact List.Mem.head _ | apply List.Mem.tail)) rfl (by simp) trivial ⟨⟨rfl, (okS_small (by decide))⟩, ⟨rfl, (okS_small (by decide))⟩, trivial⟩) (by simp)).mono fun e w2 ⟨u, h1, h2, h3⟩ => seg_out h1 h2 h3) ?_
    intro v30 wa30 wb30 hm30 hl30 hR30
    obtain ⟨A30, c30, rfl, hs30⟩ := hR30
    refine x_end ?_
    refine t_gr (Q := fun _ _ _ => False) ?_ t_nil
    refine x_buildSliceL (cs := ([[Value.string (⟨#[85, 78, 72]⟩), .slice A8 2 c8], [Value.string (⟨#[66, 71, 77]⟩), .slice A13 2 c13], [Value.string (⟨#[76, 73, 78]⟩), .slice A16 3 c16], [Value.string (⟨#[81, 84, 89]⟩), .slice A20 1 c20], [Value.string (⟨#[80, 82, 73]⟩), .slice A24 1 c24], [Value.string (⟨#[82, 70, 70]⟩), .slice A28 1 c28], [Value.string (⟨#[85, 78, 84]⟩), .slice A30 2 c30]] : List (List Value)).flatten) rfl rfl rfl Tryz.underlying29 sz49 zr49 rfl rfl rfl ?_
    intro p31
    refine x_end ?_
    refine t_flt (Q := fun _ _ _ => False) ?_
    refine x_val rfl rfl rfl (v_assign rfl) ?_
    refine x_end ?_
    refine t_done ?_
    refine x_end ?_
    refine t_norm ?_
    refine w_ret ?_
    refine ret1 rfl rfl (fun w' hm => ?_)
    rw [show orderR o = orderX o from by unfold orderR; rw [if_pos hw, orderP_X (wrO_nn hwr)]]
    exact ⟨_, rfl, hm.base (by simp), RdAll.rd (e := 49) (css := [[Value.string (⟨#[85, 78, 72]⟩), .slice A8 2 c8], [Value.string (⟨#[66, 71, 77]⟩), .slice A13 2 c13], [Value.string (⟨#[76, 73, 78]⟩), .slice A16 3 c16], [Value.string (⟨#[81, 84, 89]⟩), .slice A20 1 c20], [Value.string (⟨#[80, 82, 73]⟩), .slice A24 1 c24], [Value.string (⟨#[82, 70, 70]⟩), .slice A28 1 c28], [Value.string (⟨#[85, 78, 84]⟩), .slice A30 2 c30]]) (xs := orderX o) (.cons (tySeg_mk (x := ⟨⟨#[85, 78, 72]⟩, [[⟨#[49]⟩], [⟨#[79, 82, 68, 69, 82, 83]⟩, ⟨#[68]⟩, ⟨#[57, 54, 65]⟩, ⟨#[85, 78]⟩]]⟩) rfl (show (3 : Nat) ≤ 9223372036854775807 by decide) (hs8.keep (Kept.made hm (by repeat (first | exact List.Mem.head _ | apply List.Mem.tail)) hm8 (hm8.base (by simp)).size))) (.cons (tySeg_mk (x := ⟨⟨#[66, 71, 77]⟩, [[⟨#[50, 50, 48]⟩], [itoaS o.id]]⟩) rfl (show (3 : Nat) ≤ 9223372036854775807 by decide) (hs13.keep (Kept.made hm (by repeat (first | exact List.Mem.head _ | apply List.Mem.tail)) hm13 (hm13.base (by simp)).size))) (.cons (tySeg_mk (x := ⟨⟨#[76, 73, 78]⟩, [[itoaS 1], [⟨#[]⟩], [recT o.src o.num, ⟨#[83, 82, 86]⟩]]⟩) rfl (show (3 : Nat) ≤ 9223372036854775807 by decide) (hs16.keep (Kept.made hm (by repeat (first | exact List.Mem.head _ | apply List.Mem.tail)) hm16 (hm16.base (by simp)).size))) (.cons (tySeg_mk (x := ⟨⟨#[81, 84, 89]⟩, [[⟨#[50, 49]⟩, itoaS o.copies]]⟩) rfl (show (3 : Nat) ≤ 9223372036854775807 by decide) (hs20.keep (Kept.made hm (by repeat (first | exact List.Mem.head _ | apply List.Mem.tail)) hm20 (hm20.base (by simp)).size))) (.cons (tySeg_mk (x := ⟨⟨#[80, 82, 73]⟩, [[⟨#[65, 65, 65]⟩, itoaS o.price]]⟩) rfl (show (3 : Nat) ≤ 9223372036854775807 by decide) (hs24.keep (Kept.made hm (by repeat (first | exact List.Mem.head _ | apply List.Mem.tail)) hm24 (hm24.base (by simp)).size))) (.cons (tySeg_mk (x := ⟨⟨#[82, 70, 70]⟩, [[⟨#[66, 70, 78]⟩, itoaS o.fund]]⟩) rfl (show (3 : Nat) ≤ 9223372036854775807 by decide) (hs28.keep (Kept.made hm (by repeat (first | exact List.Mem.head _ | apply List.Mem.tail)) hm28 (hm28.base (by simp)).size))) (.cons (tySeg_mk (x := ⟨⟨#[85, 78, 84]⟩, [[⟨#[55]⟩], [⟨#[49]⟩]]⟩) rfl (show (3 : Nat) ≤ 9223372036854775807 by decide) (hs30.keep (Kept.made hm (by repeat (first | exact List.Mem.head _ | apply List.Mem.tail)) hm30 (hm30.base (by simp)).size))) (.nil)))))))) hm (.head _) (by repeat (first | exact List.Mem.head _ | apply List.Mem.tail)) rfl (show (7 : Nat) ≤ maxLen by decide), fun h => absurd (show (7 : Nat) = 0 from h) (by decide)⟩

end Go.Proofs.YtbamklefagghcaaGreatDoor

namespace Go.Proofs.YtbamklefagghcaaGreatDoor
open Go.RowKit Go.PK
set_option linter.unusedVariables false
set_option linter.unusedSimpArgs false
set_option maxRecDepth 100000 in
theorem c_text {v : Value} {l : List Seg} {D : Nat → Prop} (n e c : Nat) (w : World) (hl : sliceRd tySeg D w v l) :
    Calls Tryz.prog 40 #[v, .int .i64 (n : Nat), .int .i64 (e : Nat), .int .i64 (c : Nat)] w fun ee w' => ee = .returned (.string (txt l n e c)) ∧ Later w w' := by
  obtain ⟨A, cp, rfl, hlc, hmx, _⟩ := id hl
  obtain ⟨sb, so, EA, ec, hS⟩ := seg_there hl n
  obtain ⟨eb, eo, FA, fc, hE⟩ := els_there (K := n < l.length) (fun h => (hS h).2.2.2.2.2) e
  refine enter (vs := [Value.slice A l.length cp, .int .i64 (n : Nat), .int .i64 (e : Nat), .int .i64 (c : Nat)]) Tryz.func40 rfl Tryz.ntmps40 rfl ?_
  refine w_seq ?_
  refine rg_text ?_
  refine x_val rfl rfl rfl (v_assign rfl) ?_
  refine x_end ?_
  refine t_norm ?_
  refine w_seq ?_
  refine w_seq ?_
  refine rg_text ?_
  refine x_val rfl rfl rfl (v_move rfl) ?_
  refine x_val rfl rfl rfl (v_move rfl) ?_
  refine x_val rfl rfl rfl (v_len_slice Tryz.underlying29 rfl) ?_
  refine x_bool rfl rfl rfl (v_geq rfl rfl) ?_
  intro b12 hb12
  refine x_val rfl rfl rfl (v_move rfl) ?_
  refine x_if [] rfl rfl rfl rfl rfl (fun hg => by obtain ⟨hg0, _⟩ := hg; subst hg0; (try simp only [List.cons_append, List.nil_append, gvl_nil, gvl_t, gvl_f]); exact v_move rfl) ?_
  refine x_if [] rfl rfl rfl rfl rfl (fun hg => by obtain ⟨hg0, _⟩ := hg; subst hg0; (try simp only [List.cons_append, List.nil_append, gvl_nil, gvl_t, gvl_f]); exact v_move rfl) ?_
  refine x_if [] rfl rfl rfl rfl rfl (fun hg => by obtain ⟨hg0, _⟩ := hg; subst hg0; (try simp only [List.cons_append, List.nil_append, gvl_nil, gvl_t, gvl_f]); exact v_move rfl) ?_
  refine x_if [] rfl rfl rfl rfl rfl (fun hg => by obtain ⟨hg0, _⟩ := hg; subst hg0; (try simp only [List.cons_append, List.nil_append, gvl_nil, gvl_t, gvl_f]); have h1 : n < l.length := (by have h0 := hb12.symm; simp only [decide_eq_false_iff_not] at h0; omega); exact v_indexAddr Tryz.underlying29 sz49 (congrArg (fun A => some (Value.slice A l.length cp)) (hS h1).1) rfl (h1) rfl) ?_
  refine x_if [] rfl rfl rfl rfl rfl (fun hg => by obtain ⟨hg0, _⟩ := hg; subst hg0; (try simp only [List.cons_append, List.nil_append, gvl_nil, gvl_t, gvl_f]); exact v_fieldAddr Tryz.underlying49 rfl sz47 (by decide) rfl rfl) ?_
  refine x_if [] rfl rfl rfl rfl rfl (fun hg => by obtain ⟨hg0, _⟩ := hg; subst hg0; (try simp only [List.cons_append, List.nil_append, gvl_nil, gvl_t, gvl_f]); have h1 : n < l.length := (by have h0 := hb12.symm; simp only [decide_eq_false_iff_not] at h0; omega); exact v_load Tryz.underlying47 rfl rfl (at_ro (.head _) trivial (hS h1).2.2.2.1)) ?_
  refine x_if [] rfl rfl rfl rfl rfl (fun hg => by obtain ⟨hg0, _⟩ := hg; subst hg0; (try simp only [List.cons_append, List.nil_append, gvl_nil, gvl_t, gvl_f]); exact v_len_slice Tryz.underlying47 rfl) ?_
  refine x_ifb [] rfl rfl rfl rfl rfl (fun hg => by obtain ⟨hg0, _⟩ := hg; subst hg0; (try simp only [List.cons_append, List.nil_append, gvl_nil, gvl_t, gvl_f]); exact v_geq rfl rfl) ?_
  intro b21 hb21
  refine x_bool rfl rfl rfl (v_or rfl rfl) ?_
  intro b22 hb22
  refine x_val rfl rfl rfl (v_move rfl) ?_
  refine x_if [] rfl rfl rfl rfl rfl (fun hg => by obtain ⟨hg0, _⟩ := hg; subst hg0; (try simp only [List.cons_append, List.nil_append, gvl_nil, gvl_t, gvl_f]); exact v_move rfl) ?_
  refine x_if [] rfl rfl rfl rfl rfl (fun hg => by obtain ⟨hg0, _⟩ := hg; subst hg0; (try simp only [List.cons_append, List.nil_append, gvl_nil, gvl_t, gvl_f]); exact v_move rfl) ?_
  refine x_if [] rfl rfl rfl rfl rfl (fun hg => by obtain ⟨hg0, _⟩ := hg; subst hg0; (try simp only [List.cons_append, List.nil_append, gvl_nil, gvl_t, gvl_f]); exact v_move rfl) ?_
  refine x_if [] rfl rfl rfl rfl rfl (fun hg => by obtain ⟨hg0, _⟩ := hg; subst hg0; (try simp only [List.cons_append, List.nil_append, gvl_nil, gvl_t, gvl_f]); have h12 : n < l.length ∧ e < (segD l n).els.length := (by have h0 := hb22.symm; simp only [hb12, hb21, Bool.or_eq_false_iff, decide_eq_false_iff_not] at h0; omega); exact v_indexAddr Tryz.underlying29 sz49 (congrArg (fun A => some (Value.slice A l.length cp)) (hS h12.1).1) rfl (h12.1) rfl) ?_
  refine x_if [] rfl rfl rfl rfl rfl (fun hg => by obtain ⟨hg0, _⟩ := hg; subst hg0; (try simp only [List.cons_append, List.nil_append, gvl_nil, gvl_t, gvl_f]); exact v_fieldAddr Tryz.underlying49 rfl sz47 (by decide) rfl rfl) ?_
  refine x_if [] rfl rfl rfl rfl rfl (fun hg => by obtain ⟨hg0, _⟩ := hg; subst hg0; (try simp only [List.cons_append, List.nil_append, gvl_nil, gvl_t, gvl_f]); have h12 : n < l.length ∧ e < (segD l n).els.length := (by have h0 := hb22.symm; simp only [hb12, hb21, Bool.or_eq_false_iff, decide_eq_false_iff_not] at h0; omega); exact v_load Tryz.underlying47 rfl rfl (at_ro (.head _) trivial (hS h12.1).2.2.2.1)) ?_
  refine x_if [] rfl rfl rfl rfl rfl (fun hg => by obtain ⟨hg0, _⟩ := hg; subst hg0; (try simp only [List.cons_append, List.nil_append, gvl_nil, gvl_t, gvl_f]); exact v_move rfl) ?_
  refine x_if [] rfl rfl rfl rfl rfl (fun hg => by obtain ⟨hg0, _⟩ := hg; subst hg0; (try simp only [List.cons_append, List.nil_append, gvl_nil, gvl_t, gvl_f]); have h12 : n < l.length ∧ e < (segD l n).els.length := (by have h0 := hb22.symm; simp only [hb12, hb21, Bool.or_eq_false_iff, decide_eq_false_iff_not] at h0; omega); exact v_indexAddr Tryz.underlying47 sz54 (congrArg (fun A => some (Value.slice A (segD l n).els.length ec)) (hE h12.1 h12.2).1) rfl (h12.2) rfl) ?_
  refine x_if [] rfl rfl rfl rfl rfl (fun hg => by obtain ⟨hg0, _⟩ := hg; subst hg0; (try simp only [List.cons_append, List.nil_append, gvl_nil, gvl_t, gvl_f]); have h12 : n < l.length ∧ e < (segD l n).els.length := (by have h0 := hb22.symm; simp only [hb12, hb21, Bool.or_eq_false_iff, decide_eq_false_iff_not] at h0; omega); exact v_load Tryz.underlying54 rfl rfl (at_ro (.head _) trivial (by rw [Nat.mul_one]; exact (hE h12.1 h12.2).2.2.1))) ?_
  refine x_if [] rfl rfl rfl rfl rfl (fun hg => by obtain ⟨hg0, _⟩ := hg; subst hg0; (try simp only [List.cons_append, List.nil_append, gvl_nil, gvl_t, gvl_f]); exact v_len_slice Tryz.underlying54 rfl) ?_
  refine x_ifb [] rfl rfl rfl rfl rfl (fun hg => by obtain ⟨hg0, _⟩ := hg; subst hg0; (try simp only [List.cons_append, List.nil_append, gvl_nil, gvl_t, gvl_f]); exact v_geq rfl rfl) ?_
  intro b34 hb34
  refine x_bool rfl rfl rfl (v_or rfl rfl) ?_
  intro b35 hb35
  refine x_end ?_
  refine t_norm ?_
  refine w_cond rfl (fun hc35 => ?_) (fun hc35 => ?_)
  · have hno : ¬(n < l.length ∧ e < (segD l n).els.length ∧ c < (elsD (segD l n).els e).length) := fun h => by
      simp only [hb35, hb34, hb22, hb21, hb12, Bool.or_eq_true, decide_eq_true_eq] at hc35
      omega
    refine w_seq ?_
    refine rg_text ?_
    refine x_val rfl rfl rfl (v_assign rfl) ?_
    refine x_end ?_
    refine t_norm ?_
    refine w_ret ?_
    refine t_ret ?_
    refine ret1 rfl rfl (fun w' hm => ⟨?_, hm.base (by simp)⟩)
    unfold txt; rw [txO_out hno]; rfl
  · have hin : n < l.length ∧ e < (segD l n).els.length ∧ c < (elsD (segD l n).els e).length := by
      simp only [hb35, hb34, hb22, hb21, hb12, Bool.or_eq_false_iff, decide_eq_false_iff_not] at hc35
      omega
    obtain ⟨k1, k2, k3⟩ := hin
    obtain ⟨s1, _, _, s4, _, s6⟩ := hS k1
    obtain ⟨e1, _, e3, e4⟩ := hE k1 k2
    obtain ⟨fb, fo, f1, _, f3, _⟩ := s_at e4 k3
    refine w_skip ?_
    refine t_norm ?_
    refine w_seq ?_
    refine rg_text ?_
    refine x_val rfl rfl rfl (v_move rfl) ?_
    refine x_val rfl rfl rfl (v_move rfl) ?_
    refine x_val rfl rfl rfl (v_indexAddr Tryz.underlying29 sz49 (congrArg (fun A => some (Value.slice A l.length cp)) s1) rfl (by first | omega | (dsimp only; omega)) rfl) ?_
    refine x_val rfl rfl rfl (v_fieldAddr Tryz.underlying49 rfl sz47 (by decide) rfl rfl) ?_
    refine x_val rfl rfl rfl (v_load Tryz.underlying47 rfl rfl (at_ro (.head _) trivial s4)) ?_
    refine x_val rfl rfl rfl (v_move rfl) ?_
    refine x_val rfl rfl rfl (v_indexAddr Tryz.underlying47 sz54 (congrArg (fun A => some (Value.slice A (segD l n).els.length ec)) e1) rfl (by first | omega | (dsimp only; omega)) rfl) ?_
    refine x_val rfl rfl rfl (v_load Tryz.underlying54 rfl rfl (at_ro (.head _) trivial (by rw [Nat.mul_one]; exact e3))) ?_
    refine x_val rfl rfl rfl (v_move rfl) ?_
    refine x_val rfl rfl rfl (v_indexAddr Tryz.underlying54 sz9 (congrArg (fun A => some (Value.slice A (elsD (segD l n).els e).length fc)) f1) rfl (by first | omega | (dsimp only; omega)) rfl) ?_
    refine x_val rfl rfl rfl (v_load Tryz.underlying9 rfl rfl (at_ro (.head _) trivial (by rw [Nat.mul_one]; exact f3))) ?_
    refine x_val rfl rfl rfl (v_assign rfl) ?_
    refine x_end ?_
    refine t_norm ?_
    refine w_ret ?_
    refine ret1 rfl rfl (fun w' hm => ⟨?_, hm.base (by simp)⟩)
    unfold txt; rw [txO_in k1 k2 k3]; rfl
set_option maxRecDepth 100000 in
theorem c_at {v : Value} {l : List Seg} {D : Nat → Prop} (n e c : Nat) (w : World) (hl : sliceRd tySeg D w v l) :
    Calls Tryz.prog 58 #[v, .int .i64 (n : Nat), .int .i64 (e : Nat), .int .i64 (c : Nat)] w fun ee w' => ee = .returned (.tuple #[.int .i64 (atP l n e c).1, .bool (atP l n e c).2]) ∧ Later w w' := by
  obtain ⟨A, cp, rfl, hlc, hmx, _⟩ := id hl
  obtain ⟨sb, so, EA, ec, hS⟩ := seg_there hl n
  obtain ⟨eb, eo, FA, fc, hE⟩ := els_there (K := n < l.length) (fun h => (hS h).2.2.2.2.2) e
  refine enter (vs := [Value.slice A l.length cp, .int .i64 (n : Nat), .int .i64 (e : Nat), .int .i64 (c : Nat)]) Tryz.func58 rfl Tryz.ntmps58 rfl ?_
  refine w_seq ?_
  refine rg_text ?_
  refine x_val rfl rfl rfl (v_assign rfl) ?_
  refine x_val rfl rfl rfl (v_assign rfl) ?_
  refine x_end ?_
  refine t_norm ?_
  refine w_seq ?_
  refine w_seq ?_
  refine rg_text ?_
  refine x_val rfl rfl rfl (v_move rfl) ?_
  refine x_bool rfl rfl rfl (v_lss rfl rfl) ?_
  intro b11 hb11
  refine x_val rfl rfl rfl (v_move rfl) ?_
  refine x_if [] rfl rfl rfl rfl rfl (fun hg => by obtain ⟨hg0, _⟩ := hg; subst hg0; (try simp only [List.cons_append, List.nil_append, gvl_nil, gvl_t, gvl_f]); exact v_move rfl) ?_
  refine x_if [] rfl rfl rfl rfl rfl (fun hg => by obtain ⟨hg0, _⟩ := hg; subst hg0; (try simp only [List.cons_append, List.nil_append, gvl_nil, gvl_t, gvl_f]); exact v_move rfl) ?_
  refine x_if [] rfl rfl rfl rfl rfl (fun hg => by obtain ⟨hg0, _⟩ := hg; subst hg0; (try simp only [List.cons_append, List.nil_append, gvl_nil, gvl_t, gvl_f]); exact v_len_slice Tryz.underlying29 rfl) ?_
  refine x_ifb [] rfl rfl rfl rfl rfl (fun hg => by obtain ⟨hg0, _⟩ := hg; subst hg0; (try simp only [List.cons_append, List.nil_append, gvl_nil, gvl_t, gvl_f]); exact v_geq rfl rfl) ?_
  intro b16 hb16
  refine x_bool rfl rfl rfl (v_or rfl rfl) ?_
  intro b17 hb17
  refine x_val rfl rfl rfl (v_move rfl) ?_
  refine x_if [] rfl rfl rfl rfl rfl (fun hg => by obtain ⟨hg0, _⟩ := hg; subst hg0; (try simp only [List.cons_append, List.nil_append, gvl_nil, gvl_t, gvl_f]); exact v_move rfl) ?_
  refine x_if [] rfl rfl rfl rfl rfl (fun hg => by obtain ⟨hg0, _⟩ := hg; subst hg0; (try simp only [List.cons_append, List.nil_append, gvl_nil, gvl_t, gvl_f]); exact v_move rfl) ?_
  refine x_if [] rfl rfl rfl rfl rfl (fun hg => by obtain ⟨hg0, _⟩ := hg; subst hg0; (try simp only [List.cons_append, List.nil_append, gvl_nil, gvl_t, gvl_f]); exact v_move rfl) ?_
  refine x_if [] rfl rfl rfl rfl rfl (fun hg => by obtain ⟨hg0, _⟩ := hg; subst hg0; (try simp only [List.cons_append, List.nil_append, gvl_nil, gvl_t, gvl_f]); have h1 : n < l.length := (by have h0 := hb17.symm; simp only [hb11, hb16, Bool.or_eq_false_iff, decide_eq_false_iff_not] at h0; omega); exact v_indexAddr Tryz.underlying29 sz49 (congrArg (fun A => some (Value.slice A l.length cp)) (hS h1).1) rfl (h1) rfl) ?_
  refine x_if [] rfl rfl rfl rfl rfl (fun hg => by obtain ⟨hg0, _⟩ := hg; subst hg0; (try simp only [List.cons_append, List.nil_append, gvl_nil, gvl_t, gvl_f]); exact v_fieldAddr Tryz.underlying49 rfl sz47 (by decide) rfl rfl) ?_
  refine x_if [] rfl rfl rfl rfl rfl (fun hg => by obtain ⟨hg0, _⟩ := hg; subst hg0; (try simp only [List.cons_append, List.nil_append, gvl_nil, gvl_t, gvl_f]); have h1 : n < l.length := (by have h0 := hb17.symm; simp only [hb11, hb16, Bool.or_eq_false_iff, decide_eq_false_iff_not] at h0; omega); exact v_load Tryz.underlying47 rfl rfl (at_ro (.head _) trivial (hS h1).2.2.2.1)) ?_
  refine x_if [] rfl rfl rfl rfl rfl (fun hg => by obtain ⟨hg0, _⟩ := hg; subst hg0; (try simp only [List.cons_append, List.nil_append, gvl_nil, gvl_t, gvl_f]); exact v_len_slice Tryz.underlying47 rfl) ?_
  refine x_ifb [] rfl rfl rfl rfl rfl (fun hg => by obtain ⟨hg0, _⟩ := hg; subst hg0; (try simp only [List.cons_append, List.nil_append, gvl_nil, gvl_t, gvl_f]); exact v_geq rfl rfl) ?_
  intro b26 hb26
  refine x_bool rfl rfl rfl (v_or rfl rfl) ?_
  intro b27 hb27
  refine x_val rfl rfl rfl (v_move rfl) ?_
  refine x_if [] rfl rfl rfl rfl rfl (fun hg => by obtain ⟨hg0, _⟩ := hg; subst hg0; (try simp only [List.cons_append, List.nil_append, gvl_nil, gvl_t, gvl_f]); exact v_move rfl) ?_
  refine x_if [] rfl rfl rfl rfl rfl (fun hg => by obtain ⟨hg0, _⟩ := hg; subst hg0; (try simp only [List.cons_append, List.nil_append, gvl_nil, gvl_t, gvl_f]); exact v_move rfl) ?_
  refine x_if [] rfl rfl rfl rfl rfl (fun hg => by obtain ⟨hg0, _⟩ := hg; subst hg0; (try simp only [List.cons_append, List.nil_append, gvl_nil, gvl_t, gvl_f]); exact v_move rfl) ?_
  refine x_if [] rfl rfl rfl rfl rfl (fun hg => by obtain ⟨hg0, _⟩ := hg; subst hg0; (try simp only [List.cons_append, List.nil_append, gvl_nil, gvl_t, gvl_f]); have h12 : n < l.length ∧ e < (segD l n).els.length := (by have h0 := hb27.symm; simp only [hb11, hb16, hb17, hb26, Bool.or_eq_false_iff, decide_eq_false_iff_not] at h0; omega); exact v_indexAddr Tryz.underlying29 sz49 (congrArg (fun A => some (Value.slice A l.length cp)) (hS h12.1).1) rfl (h12.1) rfl) ?_
  refine x_if [] rfl rfl rfl rfl rfl (fun hg => by obtain ⟨hg0, _⟩ := hg; subst hg0; (try simp only [List.cons_append, List.nil_append, gvl_nil, gvl_t, gvl_f]); exact v_fieldAddr Tryz.underlying49 rfl sz47 (by decide) rfl rfl) ?_
  refine x_if [] rfl rfl rfl rfl rfl (fun hg => by obtain ⟨hg0, _⟩ := hg; subst hg0; (try simp only [List.cons_append, List.nil_append, gvl_nil, gvl_t, gvl_f]); have h12 : n < l.length ∧ e < (segD l n).els.length := (by have h0 := hb27.symm; simp only [hb11, hb16, hb17, hb26, Bool.or_eq_false_iff, decide_eq_false_iff_not] at h0; omega); exact v_load Tryz.underlying47 rfl rfl (at_ro (.head _) trivial (hS h12.1).2.2.2.1)) ?_
  refine x_if [] rfl rfl rfl rfl rfl (fun hg => by obtain ⟨hg0, _⟩ := hg; subst hg0; (try simp only [List.cons_append, List.nil_append, gvl_nil, gvl_t, gvl_f]); exact v_move rfl) ?_
  refine x_if [] rfl rfl rfl rfl rfl (fun hg => by obtain ⟨hg0, _⟩ := hg; subst hg0; (try simp only [List.cons_append, List.nil_append, gvl_nil, gvl_t, gvl_f]); have h12 : n < l.length ∧ e < (segD l n).els.length := (by have h0 := hb27.symm; simp only [hb11, hb16, hb17, hb26, Bool.or_eq_false_iff, decide_eq_false_iff_not] at h0; omega); exact v_indexAddr Tryz.underlying47 sz54 (congrArg (fun A => some (Value.slice A (segD l n).els.length ec)) (hE h12.1 h12.2).1) rfl (h12.2) rfl) ?_
  refine x_if [] rfl rfl rfl rfl rfl (fun hg => by obtain ⟨hg0, _⟩ := hg; subst hg0; (try simp only [List.cons_append, List.nil_append, gvl_nil, gvl_t, gvl_f]); have h12 : n < l.length ∧ e < (segD l n).els.length := (by have h0 := hb27.symm; simp only [hb11, hb16, hb17, hb26, Bool.or_eq_false_iff, decide_eq_false_iff_not] at h0; omega); exact v_load Tryz.underlying54 rfl rfl (at_ro (.head _) trivial (by rw [Nat.mul_one]; exact (hE h12.1 h12.2).2.2.1))) ?_
  refine x_if [] rfl rfl rfl rfl rfl (fun hg => by obtain ⟨hg0, _⟩ := hg; subst hg0; (try simp only [List.cons_append, List.nil_append, gvl_nil, gvl_t, gvl_f]); exact v_len_slice Tryz.underlying54 rfl) ?_
  refine x_ifb [] rfl rfl rfl rfl rfl (fun hg => by obtain ⟨hg0, _⟩ := hg; subst hg0; (try simp only [List.cons_append, List.nil_append, gvl_nil, gvl_t, gvl_f]); exact v_geq rfl rfl) ?_
  intro b39 hb39
  refine x_bool rfl rfl rfl (v_or rfl rfl) ?_
  intro b40 hb40
  refine x_end ?_
  refine t_norm ?_
  refine w_cond rfl (fun hc40 => ?_) (fun hc40 => ?_)
  · have hno : ¬(n < l.length ∧ e < (segD l n).els.length ∧ c < (elsD (segD l n).els e).length) := fun h => by
      simp only [hb40, hb39, hb27, hb26, hb17, hb16, hb11, Bool.or_eq_true, decide_eq_true_eq] at hc40
      omega
    refine w_seq ?_
    refine rg_text ?_
    refine x_val rfl rfl rfl (v_assign rfl) ?_
    refine x_val rfl rfl rfl (v_assign rfl) ?_
    refine x_end ?_
    refine t_norm ?_
    refine w_ret ?_
    refine t_ret ?_
    refine ret2 rfl rfl rfl (fun w' hm => ⟨?_, hm.base (by simp)⟩)
    unfold atP; rw [txO_out hno]
  · have hin : n < l.length ∧ e < (segD l n).els.length ∧ c < (elsD (segD l n).els e).length := by
      simp only [hb40, hb39, hb27, hb26, hb17, hb16, hb11, Bool.or_eq_false_iff, decide_eq_false_iff_not] at hc40
      omega
    obtain ⟨k1, k2, k3⟩ := hin
    obtain ⟨s1, _, _, s4, _, s6⟩ := hS k1
    obtain ⟨e1, _, e3, e4⟩ := hE k1 k2
    obtain ⟨fb, fo, f1, _, f3, _⟩ := s_at e4 k3
    refine w_skip ?_
    refine t_norm ?_
    refine w_seq ?_
    refine rg_text ?_
    refine x_val rfl rfl rfl (v_move rfl) ?_
    refine x_val rfl rfl rfl (v_move rfl) ?_
    refine x_val rfl rfl rfl (v_indexAddr Tryz.underlying29 sz49 (congrArg (fun A => some (Value.slice A l.length cp)) s1) rfl (by first | omega | (dsimp only; omega)) rfl) ?_
    refine x_val rfl rfl rfl (v_fieldAddr Tryz.underlying49 rfl sz47 (by decide) rfl rfl) ?_
    refine x_val rfl rfl rfl (v_load Tryz.underlying47 rfl rfl (at_ro (.head _) trivial s4)) ?_
    refine x_val rfl rfl rfl (v_move rfl) ?_
    refine x_val rfl rfl rfl (v_indexAddr Tryz.underlying47 sz54 (congrArg (fun A => some (Value.slice A (segD l n).els.length ec)) e1) rfl (by first | omega | (dsimp only; omega)) rfl) ?_
    refine x_val rfl rfl rfl (v_load Tryz.underlying54 rfl rfl (at_ro (.head _) trivial (by rw [Nat.mul_one]; exact e3))) ?_
    refine x_val rfl rfl rfl (v_move rfl) ?_
    refine x_val rfl rfl rfl (v_indexAddr Tryz.underlying54 sz9 (congrArg (fun A => some (Value.slice A (elsD (segD l n).els e).length fc)) f1) rfl (by first | omega | (dsimp only; omega)) rfl) ?_
    refine x_val rfl rfl rfl (v_load Tryz.underlying9 rfl rfl (at_ro (.head _) trivial (by rw [Nat.mul_one]; exact f3))) ?_
    refine x_callv rfl rfl rfl Tryz.func59 (by kernel_rfl) rfl (fun w1 hw1 => c_value _ 9 w1 (by decide)) ?_
    refine x_val rfl rfl rfl (v_extract rfl rfl) ?_
    refine x_bool rfl rfl rfl (v_extract rfl rfl) ?_
    intro b54 hb54
    refine x_val rfl rfl rfl (v_assign rfl) ?_
    refine x_val rfl rfl rfl (v_assign rfl) ?_
    refine x_end ?_
    refine t_norm ?_
    refine w_ret ?_
    refine ret2 rfl rfl rfl (fun w' hm => ⟨?_, hm.base (by simp)⟩)
    rw [hb54]; unfold atP; rw [txO_in k1 k2 k3]; rfl
set_option maxRecDepth 100000 in
theorem c_rrec {v : Value} {l : List Seg} {D : Nat → Prop} (n : Nat) (w : World) (hl : sliceRd tySeg D w v l) :
    Calls Tryz.prog 57 #[v, .int .i64 (n : Nat)] w fun ee w' => ee = .returned (.tuple #[.agg #[.int .i64 (rrec l n).1.1, .int .i64 (rrec l n).1.2], .bool (rrec l n).2]) ∧ Later w w' := by
  obtain ⟨A, cp, rfl, hlc, hmx, _⟩ := id hl
  obtain ⟨sb, so, EA, ec, hS⟩ := seg_there hl n
  obtain ⟨eb, eo, FA, fc, hE⟩ := els_there (K := n < l.length) (fun h => (hS h).2.2.2.2.2) 2
  refine enter (vs := [Value.slice A l.length cp, .int .i64 (n : Nat)]) Tryz.func57 rfl Tryz.ntmps57 rfl ?_
  refine w_seq ?_
  refine rg_text ?_
  refine x_alloc rfl rfl rfl zr23 ?_
  intro p4
  refine x_val rfl rfl rfl (v_assign rfl) ?_
  refine x_end ?_
  refine t_norm ?_
  refine w_seq ?_
  refine w_seq ?_
  refine rg_text ?_
  refine x_val rfl rfl rfl (v_move rfl) ?_
  refine x_bool rfl rfl rfl (v_lss rfl rfl) ?_
  intro b13 hb13
  refine x_val rfl rfl rfl (v_move rfl) ?_
  refine x_if [] rfl rfl rfl rfl rfl (fun hg => by obtain ⟨hg0, _⟩ := hg; subst hg0; (try simp only [List.cons_append, List.nil_append, gvl_nil, gvl_t, gvl_f]); exact v_move rfl) ?_
  refine x_if [] rfl rfl rfl rfl rfl (fun hg => by obtain ⟨hg0, _⟩ := hg; subst hg0; (try simp only [List.cons_append, List.nil_append, gvl_nil, gvl_t, gvl_f]); exact v_move rfl) ?_
  refine x_if [] rfl rfl rfl rfl rfl (fun hg => by obtain ⟨hg0, _⟩ := hg; subst hg0; (try simp only [List.cons_append, List.nil_append, gvl_nil, gvl_t, gvl_f]); exact v_len_slice Tryz.underlying29 rfl) ?_
  refine x_ifb [] rfl rfl rfl rfl rfl (fun hg => by obtain ⟨hg0, _⟩ := hg; subst hg0; (try simp only [List.cons_append, List.nil_append, gvl_nil, gvl_t, gvl_f]); exact v_geq rfl rfl) ?_
  intro b18 hb18
  refine x_bool rfl rfl rfl (v_or rfl rfl) ?_
  intro b19 hb19
  refine x_val rfl rfl rfl (v_move rfl) ?_
  refine x_if [] rfl rfl rfl rfl rfl (fun hg => by obtain ⟨hg0, _⟩ := hg; subst hg0; (try simp only [List.cons_append, List.nil_append, gvl_nil, gvl_t, gvl_f]); exact v_move rfl) ?_
  refine x_if [] rfl rfl rfl rfl rfl (fun hg => by obtain ⟨hg0, _⟩ := hg; subst hg0; (try simp only [List.cons_append, List.nil_append, gvl_nil, gvl_t, gvl_f]); exact v_move rfl) ?_
  refine x_if [] rfl rfl rfl rfl rfl (fun hg => by obtain ⟨hg0, _⟩ := hg; subst hg0; (try simp only [List.cons_append, List.nil_append, gvl_nil, gvl_t, gvl_f]); have h1 : n < l.length := (by have h0 := hb19.symm; simp only [hb13, hb18, Bool.or_eq_false_iff, decide_eq_false_iff_not] at h0; omega); exact v_indexAddr Tryz.underlying29 sz49 (congrArg (fun A => some (Value.slice A l.length cp)) (hS h1).1) rfl (h1) rfl) ?_
  refine x_if [] rfl rfl rfl rfl rfl (fun hg => by obtain ⟨hg0, _⟩ := hg; subst hg0; (try simp only [List.cons_append, List.nil_append, gvl_nil, gvl_t, gvl_f]); exact v_fieldAddr Tryz.underlying49 rfl sz47 (by decide) rfl rfl) ?_
  refine x_if [] rfl rfl rfl rfl rfl (fun hg => by obtain ⟨hg0, _⟩ := hg; subst hg0; (try simp only [List.cons_append, List.nil_append, gvl_nil, gvl_t, gvl_f]); have h1 : n < l.length := (by have h0 := hb19.symm; simp only [hb13, hb18, Bool.or_eq_false_iff, decide_eq_false_iff_not] at h0; omega); exact v_load Tryz.underlying47 rfl rfl (at_ro (.head _) trivial (hS h1).2.2.2.1)) ?_
  refine x_if [] rfl rfl rfl rfl rfl (fun hg => by obtain ⟨hg0, _⟩ := hg; subst hg0; (try simp only [List.cons_append, List.nil_append, gvl_nil, gvl_t, gvl_f]); exact v_len_slice Tryz.underlying47 rfl) ?_
  refine x_ifb [] rfl rfl rfl rfl rfl (fun hg => by obtain ⟨hg0, _⟩ := hg; subst hg0; (try simp only [List.cons_append, List.nil_append, gvl_nil, gvl_t, gvl_f]); exact v_lss rfl rfl) ?_
  intro b27 hb27
  refine x_bool rfl rfl rfl (v_or rfl rfl) ?_
  intro b28 hb28
  refine x_val rfl rfl rfl (v_move rfl) ?_
  refine x_if [] rfl rfl rfl rfl rfl (fun hg => by obtain ⟨hg0, _⟩ := hg; subst hg0; (try simp only [List.cons_append, List.nil_append, gvl_nil, gvl_t, gvl_f]); exact v_move rfl) ?_
  refine x_if [] rfl rfl rfl rfl rfl (fun hg => by obtain ⟨hg0, _⟩ := hg; subst hg0; (try simp only [List.cons_append, List.nil_append, gvl_nil, gvl_t, gvl_f]); exact v_move rfl) ?_
  refine x_if [] rfl rfl rfl rfl rfl (fun hg => by obtain ⟨hg0, _⟩ := hg; subst hg0; (try simp only [List.cons_append, List.nil_append, gvl_nil, gvl_t, gvl_f]); have h12 : n < l.length ∧ 2 < (segD l n).els.length := (by have h0 := hb28.symm; simp only [hb13, hb18, hb19, hb27, Bool.or_eq_false_iff, decide_eq_false_iff_not] at h0; omega); exact v_indexAddr Tryz.underlying29 sz49 (congrArg (fun A => some (Value.slice A l.length cp)) (hS h12.1).1) rfl (h12.1) rfl) ?_
  refine x_if [] rfl rfl rfl rfl rfl (fun hg => by obtain ⟨hg0, _⟩ := hg; subst hg0; (try simp only [List.cons_append, List.nil_append, gvl_nil, gvl_t, gvl_f]); exact v_fieldAddr Tryz.underlying49 rfl sz47 (by decide) rfl rfl) ?_
  refine x_if [] rfl rfl rfl rfl rfl (fun hg => by obtain ⟨hg0, _⟩ := hg; subst hg0; (try simp only [List.cons_append, List.nil_append, gvl_nil, gvl_t, gvl_f]); have h12 : n < l.length ∧ 2 < (segD l n).els.length := (by have h0 := hb28.symm; simp only [hb13, hb18, hb19, hb27, Bool.or_eq_false_iff, decide_eq_false_iff_not] at h0; omega); exact v_load Tryz.underlying47 rfl rfl (at_ro (.head _) trivial (hS h12.1).2.2.2.1)) ?_
  refine x_if [] rfl rfl rfl rfl rfl (fun hg => by obtain ⟨hg0, _⟩ := hg; subst hg0; (try simp only [List.cons_append, List.nil_append, gvl_nil, gvl_t, gvl_f]); have h12 : n < l.length ∧ 2 < (segD l n).els.length := (by have h0 := hb28.symm; simp only [hb13, hb18, hb19, hb27, Bool.or_eq_false_iff, decide_eq_false_iff_not] at h0; omega); exact v_indexAddr (j := 2) Tryz.underlying47 sz54 (congrArg (fun A => some (Value.slice A (segD l n).els.length ec)) (hE h12.1 h12.2).1) rfl (h12.2) rfl) ?_
  refine x_if [] rfl rfl rfl rfl rfl (fun hg => by obtain ⟨hg0, _⟩ := hg; subst hg0; (try simp only [List.cons_append, List.nil_append, gvl_nil, gvl_t, gvl_f]); have h12 : n < l.length ∧ 2 < (segD l n).els.length := (by have h0 := hb28.symm; simp only [hb13, hb18, hb19, hb27, Bool.or_eq_false_iff, decide_eq_false_iff_not] at h0; omega); exact v_load Tryz.underlying54 rfl rfl (at_ro (.head _) trivial (by rw [Nat.mul_one]; exact (hE h12.1 h12.2).2.2.1))) ?_
  refine x_if [] rfl rfl rfl rfl rfl (fun hg => by obtain ⟨hg0, _⟩ := hg; subst hg0; (try simp only [List.cons_append, List.nil_append, gvl_nil, gvl_t, gvl_f]); exact v_len_slice Tryz.underlying54 rfl) ?_
  refine x_ifb [] rfl rfl rfl rfl rfl (fun hg => by obtain ⟨hg0, _⟩ := hg; subst hg0; (try simp only [List.cons_append, List.nil_append, gvl_nil, gvl_t, gvl_f]); exact v_lss rfl rfl) ?_
  intro b38 hb38
  refine x_bool rfl rfl rfl (v_or rfl rfl) ?_
  intro b39 hb39
  refine x_end ?_
  refine t_norm ?_
  refine w_cond rfl (fun hc39 => ?_) (fun hc39 => ?_)
  · have hno : ¬(n < l.length ∧ 2 < (segD l n).els.length ∧ 0 < (elsD (segD l n).els 2).length) := fun h => by
      simp only [hb39, hb38, hb28, hb27, hb19, hb18, hb13, Bool.or_eq_true, decide_eq_true_eq] at hc39
      omega
    refine w_seq ?_
    refine rg_text ?_
    refine x_val rfl rfl rfl (v_buildL (places := [(0, 1), (1, 1)]) Tryz.underlying23 zr23 (by kernel_rfl) rfl rfl) ?_
    refine x_store0 [] rfl rfl rfl rfl sz23 rfl rfl ?_
    refine x_val rfl rfl rfl (v_assign rfl) ?_
    refine x_end ?_
    refine t_norm ?_
    refine w_ret ?_
    refine t_ret ?_
    refine retct (cs := #[.int .i64 0, .int .i64 0]) rfl rfl rfl (.head _) Tryz.underlying23 rfl sz23 (fun w' hm => ⟨?_, hm.base (by simp)⟩)
    rw [rrec_out hno]
  · have hin : n < l.length ∧ 2 < (segD l n).els.length ∧ 0 < (elsD (segD l n).els 2).length := by
      simp only [hb39, hb38, hb28, hb27, hb19, hb18, hb13, Bool.or_eq_false_iff, decide_eq_false_iff_not] at hc39
      omega
    obtain ⟨k1, k2, k3⟩ := hin
    obtain ⟨s1, _, _, s4, _, s6⟩ := hS k1
    obtain ⟨e1, _, e3, e4⟩ := hE k1 k2
    obtain ⟨fb, fo, f1, _, f3, fok⟩ := s_at e4 k3
    have hrr := rrec_in k1 k2 k3
    obtain ⟨s, hs⟩ : ∃ s, (elsD (segD l n).els 2)[0] = s := ⟨_, rfl⟩
    rw [hs] at f3 fok hrr
    have hsz : s.size ≤ 9223372036854775807 := fok
    refine w_skip ?_
    refine t_norm ?_
    refine w_seq ?_
    refine rg_text ?_
    refine x_val rfl rfl rfl (v_move rfl) ?_
    refine x_val rfl rfl rfl (v_move rfl) ?_
    refine x_val rfl rfl rfl (v_indexAddr Tryz.underlying29 sz49 (congrArg (fun A => some (Value.slice A l.length cp)) s1) rfl (by first | omega | (dsimp only; omega)) rfl) ?_
    refine x_val rfl rfl rfl (v_fieldAddr Tryz.underlying49 rfl sz47 (by decide) rfl rfl) ?_
    refine x_val rfl rfl rfl (v_load Tryz.underlying47 rfl rfl (at_ro (.head _) trivial s4)) ?_
    refine x_val rfl rfl rfl (v_indexAddr (j := 2) Tryz.underlying47 sz54 (congrArg (fun A => some (Value.slice A (segD l n).els.length ec)) e1) rfl (by first | omega | (dsimp only; omega)) rfl) ?_
    refine x_val rfl rfl rfl (v_load Tryz.underlying54 rfl rfl (at_ro (.head _) trivial (by rw [Nat.mul_one]; exact e3))) ?_
    refine x_val rfl rfl rfl (v_indexAddr (j := 0) Tryz.underlying54 sz9 (congrArg (fun A => some (Value.slice A (elsD (segD l n).els 2).length fc)) f1) rfl (by first | omega | (dsimp only; omega)) rfl) ?_
    refine x_val rfl rfl rfl (v_load Tryz.underlying9 rfl rfl (at_ro (.head _) trivial (by rw [Nat.mul_one]; exact f3))) ?_
    refine x_val rfl rfl rfl (v_assign rfl) ?_
    refine x_end ?_
    refine t_norm ?_
    refine w_seq ?_
    refine w_seq ?_
    refine rg_text ?_
    refine x_val rfl rfl rfl (v_assign rfl) ?_
    refine x_end ?_
    refine t_norm ?_
    refine w_block ?_
    refine w_loop (σ := Nat) (fun k => k ≤ s.size ∧ ∀ j, j < k → byteAt s j ≠ 46) (fun k => [(4, Value.pointer (some ⟨p4, 0, none⟩)), (6, Value.string s), (7, Value.int .i64 (k : Nat))]) (fun k => [(p4, Obj.cells [Value.int .i64 0, .int .i64 0].toArray 23)]) (fun k => [(w, fun _ => True)]) (fun k => s.size - k) (0) (⟨Nat.zero_le _, fun j hj => absurd hj (Nat.not_lt_zero _)⟩) (l_start (by repeat (first | exact Sub.nil | refine Sub.cons rfl ?_)) (fun _ h => h)) ?_
    rintro k ⟨hk, hno⟩
    refine w_state ([(4, Value.pointer (some ⟨p4, 0, none⟩)), (6, Value.string s), (7, Value.int .i64 (k : Nat))]) ([(p4, Obj.cells [Value.int .i64 0, .int .i64 0].toArray 23)]) ([(w, fun _ => True)]) ?_
    refine w_seq ?_
    refine w_seq ?_
    refine rg_text ?_
    refine x_val rfl rfl rfl (v_move rfl) ?_
    refine x_val rfl rfl rfl (v_move rfl) ?_
    refine x_val rfl rfl rfl (v_len_str Tryz.underlying9 rfl) ?_
    refine x_bool rfl rfl rfl (v_lss rfl rfl) ?_
    intro b53 hb53
    refine x_end ?_
    refine t_norm ?_
    refine w_cond rfl (fun hc53 => ?_) (fun hc53 => ?_)
    · simp only [hb53, decide_eq_true_eq, decide_eq_false_iff_not, Bool.and_eq_true, Bool.or_eq_true, Bool.and_eq_false_iff, Bool.or_eq_false_iff, Bool.not_eq_true', Bool.not_eq_false', ne_eq, Decidable.not_not] at hc53
      have hk1 : k < s.size := by omega
      refine w_skip ?_
      refine t_norm ?_
      refine w_seq ?_
      refine w_block ?_
      refine w_seq ?_
      refine rg_text ?_
      refine x_val rfl rfl rfl (v_move rfl) ?_
      refine x_val rfl rfl rfl (v_move rfl) ?_
      refine x_val rfl rfl rfl (v_index Tryz.underlying9 rfl rfl (hk1)) ?_
      refine x_bool rfl rfl rfl (v_eql rfl rfl) ?_
      intro b59 hb59
      refine x_end ?_
      refine t_norm ?_
      refine w_cond rfl (fun hc59 => ?_) (fun hc59 => ?_)
      · simp only [hb59, decide_eq_true_eq, decide_eq_false_iff_not, Bool.and_eq_true, Bool.or_eq_true, Bool.and_eq_false_iff, Bool.or_eq_false_iff, Bool.not_eq_true', Bool.not_eq_false', ne_eq, Decidable.not_not] at hc59
        have hdot : byteAt s k = 46 := u8_lit (k := 46) |>.1 hc59
        have hcut := cut_at hk1 hno hdot
        refine w_seq ?_
        refine rg_text ?_
        refine x_val rfl rfl rfl (v_move rfl) ?_
        refine x_val rfl rfl rfl (v_move rfl) ?_
        refine x_val rfl rfl rfl (v_cut_to (j := k) Tryz.underlying9 rfl rfl (by omega)) ?_
        refine x_callv rfl rfl rfl Tryz.func59 (by kernel_rfl) rfl (fun w1 hw1 => c_value _ 9 w1 (by decide)) ?_
        refine x_val rfl rfl rfl (v_move rfl) ?_
        refine x_val rfl rfl rfl (v_extract rfl rfl) ?_
        refine x_bool rfl rfl rfl (v_extract rfl rfl) ?_
        intro b66 hb66
        refine x_val rfl rfl rfl (v_assign rfl) ?_
        refine x_val rfl rfl rfl (v_assign rfl) ?_
        refine x_end ?_
        refine t_norm ?_
        refine w_seq ?_
        refine rg_text ?_
        refine x_val rfl rfl rfl (v_move rfl) ?_
        refine x_val rfl rfl rfl (v_move rfl) ?_
        refine x_val rfl rfl rfl (v_addi (c := ((k + 1 : Nat) : Int)) rfl rfl (by omega) (by omega)) ?_
        refine x_val rfl rfl rfl (v_cut_from (i := k + 1) Tryz.underlying9 rfl rfl (by omega)) ?_
        refine x_callv rfl rfl rfl Tryz.func59 (by kernel_rfl) rfl (fun w1 hw1 => c_value _ 9 w1 (by decide)) ?_
        refine x_val rfl rfl rfl (v_move rfl) ?_
        refine x_val rfl rfl rfl (v_extract rfl rfl) ?_
        refine x_bool rfl rfl rfl (v_extract rfl rfl) ?_
        intro b74 hb74
        refine x_val rfl rfl rfl (v_assign rfl) ?_
        refine x_val rfl rfl rfl (v_assign rfl) ?_
        refine x_end ?_
        refine t_norm ?_
        refine w_seq ?_
        refine rg_text ?_
        refine x_val rfl rfl rfl (v_move rfl) ?_
        refine x_val rfl rfl rfl (v_move rfl) ?_
        refine x_val rfl rfl rfl (v_buildL (places := [(0, 1), (1, 1)]) Tryz.underlying23 zr23 (by kernel_rfl) rfl rfl) ?_
        refine x_val rfl rfl rfl (v_move rfl) ?_
        refine x_val rfl rfl rfl (v_move rfl) ?_
        refine x_if [] rfl rfl rfl rfl rfl (fun hg => by obtain ⟨hg0, _⟩ := hg; subst hg0; (try simp only [List.cons_append, List.nil_append, gvl_nil, gvl_t, gvl_f]); exact v_move rfl) ?_
        refine x_bool rfl rfl rfl (v_and rfl rfl) ?_
        intro b81 hb81
        refine x_store0 [] rfl rfl rfl rfl sz23 rfl rfl ?_
        refine x_val rfl rfl rfl (v_assign rfl) ?_
        refine x_end ?_
        refine t_norm ?_
        refine w_ret ?_
        refine b_ret ?_
        refine t_ret ?_
        refine t_ret ?_
        refine b_ret ?_
        refine t_ret ?_
        refine retct (cs := #[.int .i64 (valP (s.extract 0 k) 9).1, .int .i64 (valP (s.extract (k + 1) s.size) 9).1]) rfl rfl rfl (.head _) Tryz.underlying23 rfl sz23 (fun w' hm => ⟨?_, hm.base (by simp)⟩)
        rw [hrr]; unfold rrecS; rw [hcut]; simp only [if_true]; rw [hb81, hb66, hb74]
      · simp only [hb59, decide_eq_true_eq, decide_eq_false_iff_not, Bool.and_eq_true, Bool.or_eq_true, Bool.and_eq_false_iff, Bool.or_eq_false_iff, Bool.not_eq_true', Bool.not_eq_false', ne_eq, Decidable.not_not] at hc59
        have hnd : byteAt s k ≠ 46 := fun h => hc59 (by rw [h]; rfl)
        refine w_skip ?_
        refine b_norm ?_
        refine t_norm ?_
        refine rg_text ?_
        refine x_val rfl rfl rfl (v_move rfl) ?_
        refine x_val rfl rfl rfl (v_addi rfl rfl rfl (by first | omega | (dsimp only; omega))) ?_
        refine x_val rfl rfl rfl (v_assign rfl) ?_
        refine x_end ?_
        exact l_norm (k + 1) ⟨by omega, fun j hj => by rcases Nat.lt_succ_iff_lt_or_eq.1 hj with h | rfl; (· exact hno j h); exact hnd⟩ (by omega) (by repeat (first | exact Sub.nil | refine Sub.cons rfl ?_)) (fun _ h => h)
    · simp only [hb53, decide_eq_true_eq, decide_eq_false_iff_not, Bool.and_eq_true, Bool.or_eq_true, Bool.and_eq_false_iff, Bool.or_eq_false_iff, Bool.not_eq_true', Bool.not_eq_false', ne_eq, Decidable.not_not] at hc53
      obtain rfl : k = s.size := by omega
      have hcut := cut_no hno
      refine w_exit ?_
      refine t_exit ?_
      refine t_exit ?_
      refine b_hit ?_
      refine t_norm ?_
      refine w_seq ?_
      refine rg_text ?_
      refine x_val rfl rfl rfl (v_buildL (places := [(0, 1), (1, 1)]) Tryz.underlying23 zr23 (by kernel_rfl) rfl rfl) ?_
      refine x_store0 [] rfl rfl rfl rfl sz23 rfl rfl ?_
      refine x_val rfl rfl rfl (v_assign rfl) ?_
      refine x_end ?_
      refine t_norm ?_
      refine w_ret ?_
      refine retct (cs := #[.int .i64 0, .int .i64 0]) rfl rfl rfl (.head _) Tryz.underlying23 rfl sz23 (fun w' hm => ⟨?_, hm.base (by simp)⟩)
      rw [hrr]; unfold rrecS; rw [hcut]; rfl

end Go.Proofs.YtbamklefagghcaaGreatDoor

namespace Go.Proofs.YtbamklefagghcaaGreatDoor
open Go.RowKit Go.PK
set_option linter.unusedVariables false
set_option linter.unusedSimpArgs false
theorem c_Atoi (s : ByteArray) (w : World) (hs : s.size ≤ 281474976710656) (hL : LD w) :
    Calls Tryz.prog 62 #[.string s] w fun e w' => ∃ n ev b, e = .returned (.tuple #[.int .i64 n, ev]) ∧ Later w w' ∧ isIface ev b ∧ (b = false → Lib.atoiAll (bl s) = .ok n) ∧ (b = true → ∀ v, Lib.atoiAll (bl s) ≠ .ok v) := by
  obtain ⟨_, _, ⟨tp, p, h1⟩, ⟨tp2, p2, h2⟩⟩ := hL
  rcases hq : Lib.atoiAll s.data.toList with v | _ | _
  · refine (Tryz.strconv_Atoi_ok s (by omega) v hq w).mono fun e w' ⟨h3, h4⟩ => ⟨v, .nilIface, false, h3, ?_, .inl ⟨rfl, rfl⟩, fun _ => hq, fun h => by cases h⟩
    rcases h4 with rfl | ⟨t, rfl⟩
    · exact Later.refl _
    · exact Lib.bytesWorld_below w _ t
  · exact (Any.strconv_Atoi_syntax_var Tryz.laysC172 s hs hq tp p w h1).mono fun e w' ⟨N, h3, _, _, h4⟩ => ⟨_, _, true, h3, h4, .inr ⟨⟨_, _, rfl⟩, rfl⟩, (fun h => by cases h), (fun _ v h => by rw [show bl s = s.data.toList from rfl, hq] at h; cases h)⟩
  · exact (Tryz.strconv_Atoi_range_var s hs hq tp2 p2 w h2).mono fun e w' ⟨N, h3, _, _, h4⟩ => ⟨_, _, true, h3, h4, .inr ⟨⟨_, _, rfl⟩, rfl⟩, (fun h => by cases h), (fun _ v h => by rw [show bl s = s.data.toList from rfl, hq] at h; cases h)⟩
theorem c_Cut (s : ByteArray) (w : World) (hs : s.size ≤ 2000000000) (hL : LD w) :
    Calls Tryz.prog 63 #[.string s, .string ⟨#[46]⟩] w fun e w' => e = .returned (.tuple #[.string (cutD s).1, .string (cutD s).2.1, .bool (cutD s).2.2]) ∧ Later w w' := by
  obtain ⟨_, ⟨m, hm⟩, _⟩ := hL
  refine (Tryz.strings_Cut s ⟨#[46]⟩ m w (by omega) hm).mono fun e w' ⟨h1, n, h2⟩ => ⟨h1, ?_⟩
  rw [h2]; exact ⟨rfl, rfl, rfl, Nat.le_refl _, fun _ _ => rfl⟩
theorem readP_in (s : ByteArray) : in64 (readP s) := by
  unfold readP
  split
  · rename_i v h
    split
    · exact Lib.atoiAll_bounds h
    · unfold in64; decide
  · unfold in64; decide
theorem cutD_sz (s : ByteArray) : (cutD s).1.size ≤ s.size ∧ (cutD s).2.1.size ≤ s.size := by
  have e : s.size = (bl s).length := (bl_len s).symm
  unfold cutD Lib.cut
  split
  · constructor
    · show (List.toArray _).size ≤ _; rw [List.size_toArray, e]; exact List.length_take_le' _ _
    · show (List.toArray _).size ≤ _; rw [List.size_toArray, e, List.length_drop]; omega
  · constructor
    · show (List.toArray _).size ≤ _; rw [List.size_toArray, e]; exact Nat.le_refl _
    · exact Nat.zero_le _
def bigO (l : List Seg) : Prop := ∀ x ∈ l, ∀ y ∈ x.els, ∀ s ∈ y, s.size ≤ 2000000000
theorem txt_sz {l : List Seg} (h : bigO l) (n e c : Nat) : (txt l n e c).size ≤ 2000000000 := by
  unfold txt
  by_cases hin : n < l.length ∧ e < (segD l n).els.length ∧ c < (elsD (segD l n).els e).length
  · obtain ⟨k1, k2, k3⟩ := hin
    rw [txO_in k1 k2 k3]
    refine h (segD l n) ?_ (elsD (segD l n).els e) ?_ _ (List.getElem_mem k3)
    · unfold segD; rw [getD_at k1]; exact List.getElem_mem k1
    · unfold elsD; rw [getD_at k2]; exact List.getElem_mem k2
  · rw [txO_out hin]; exact Nat.zero_le _
set_option maxRecDepth 100000 in
theorem c_read (s : ByteArray) (w : World) (hs : s.size ≤ 281474976710656) (hL : LD w) :
    Calls Tryz.prog 39 #[.string s] w fun e w' => e = .returned (.int .i64 (readP s)) ∧ Later w w' := by
  refine enter (vs := [.string s]) Tryz.func39 rfl Tryz.ntmps39 rfl ?_
  refine w_seq ?_
  refine rg_text ?_
  refine x_val rfl rfl rfl (v_assign rfl) ?_
  refine x_end ?_
  refine t_norm ?_
  refine w_seq ?_
  refine rg_text ?_
  refine x_val rfl rfl rfl (v_move rfl) ?_
  refine x_call (R := fun v wa wb => ∃ n ev b, v = .tuple #[.int .i64 n, ev] ∧ isIface ev b ∧ (b = false → Lib.atoiAll (bl s) = .ok n) ∧ (b = true → ∀ v, Lib.atoiAll (bl s) ≠ .ok v)) rfl rfl rfl Tryz.func62 (by kernel_rfl) rfl (fun w1 hw1 => (c_Atoi s w1 hs (hL.later (hw1.base (by simp)))).mono fun e w2 ⟨n, ev, b, h1, h2, h3⟩ => ⟨_, h1, h2, n, ev, b, rfl, h3⟩) ?_
  intro v7 wa7 wb7 hm7 hl7 hR7
  obtain ⟨n, ev, b0, rfl, hi11, h1, h2⟩ := hR7
  refine x_val rfl rfl rfl (v_move rfl) ?_
  refine x_val rfl rfl rfl (v_extract rfl rfl) ?_
  refine x_val rfl rfl rfl (v_extract rfl rfl) ?_
  refine x_val rfl rfl rfl (v_assign rfl) ?_
  refine x_val rfl rfl rfl (v_assign rfl) ?_
  refine x_end ?_
  refine t_norm ?_
  refine w_seq ?_
  refine w_seq ?_
  refine rg_text ?_
  refine x_val rfl rfl rfl (v_move rfl) ?_
  refine x_bool rfl rfl rfl (v_ine Tryz.underlying84 rfl rfl hi11) ?_
  intro b11 hb11
  refine x_val rfl rfl rfl (v_move rfl) ?_
  refine x_if [] rfl rfl rfl rfl rfl (fun hg => by obtain ⟨hg0, _⟩ := hg; subst hg0; (try simp only [List.cons_append, List.nil_append, gvl_nil, gvl_t, gvl_f]); exact v_move rfl) ?_
  refine x_if [] rfl rfl rfl rfl rfl (fun hg => by obtain ⟨hg0, _⟩ := hg; subst hg0; (try simp only [List.cons_append, List.nil_append, gvl_nil, gvl_t, gvl_f]); exact v_len_str Tryz.underlying9 rfl) ?_
  refine x_ifb [] rfl rfl rfl rfl rfl (fun hg => by obtain ⟨hg0, _⟩ := hg; subst hg0; (try simp only [List.cons_append, List.nil_append, gvl_nil, gvl_t, gvl_f]); exact v_gtr rfl rfl) ?_
  intro b15 hb15
  refine x_bool rfl rfl rfl (v_or rfl rfl) ?_
  intro b16 hb16
  refine x_end ?_
  refine t_norm ?_
  refine w_cond rfl (fun hc16 => ?_) (fun hc16 => ?_)
  · have hneg : readP s = -1 := by
      unfold readP
      split
      · rename_i v hv
        rw [if_neg (fun h18 => ?_)]
        rw [hb16, hb15] at hc16
        rcases Bool.or_eq_true _ _ ▸ hc16 with h | h
        · exact h2 (hb11.symm.trans h) v hv
        · have := of_decide_eq_true h; omega
      · rfl
    refine w_seq ?_
    refine rg_text ?_
    refine x_val rfl rfl rfl (v_assign rfl) ?_
    refine x_end ?_
    refine t_norm ?_
    refine w_ret ?_
    refine t_ret ?_
    refine ret1 rfl rfl (fun w' hm => ⟨?_, hm.base (by simp)⟩)
    rw [hneg]
  · have hyes : readP s = n := by
      rw [hb16, hb15] at hc16
      obtain ⟨k1, k2⟩ := Bool.or_eq_false_iff.1 hc16
      have k3 := of_decide_eq_false k2
      unfold readP
      rw [h1 (hb11.symm.trans k1)]
      dsimp only
      rw [if_pos (by omega)]
    refine w_skip ?_
    refine t_norm ?_
    refine w_seq ?_
    refine rg_text ?_
    refine x_val rfl rfl rfl (v_move rfl) ?_
    refine x_val rfl rfl rfl (v_assign rfl) ?_
    refine x_end ?_
    refine t_norm ?_
    refine w_ret ?_
    refine ret1 rfl rfl (fun w' hm => ⟨?_, hm.base (by simp)⟩)
    rw [hyes]; rfl
set_option maxRecDepth 100000 in
theorem c_erec (s : ByteArray) (w : World) (hs : s.size ≤ 2000000000) (hL : LD w) :
    Calls Tryz.prog 41 #[.string s] w fun e w' => e = .returned (.agg #[.int .i64 (recS s).1, .int .i64 (recS s).2]) ∧ Later w w' := by
  refine enter (vs := [.string s]) Tryz.func41 rfl Tryz.ntmps41 rfl ?_
  refine w_seq ?_
  refine rg_text ?_
  refine x_alloc rfl rfl rfl zr23 ?_
  intro p2
  refine x_end ?_
  refine t_norm ?_
  refine w_seq ?_
  refine rg_text ?_
  refine x_val rfl rfl rfl (v_move rfl) ?_
  refine x_callv rfl rfl rfl Tryz.func63 (by kernel_rfl) rfl (fun w1 hw1 => c_Cut s w1 hs (hL.later (hw1.base (by simp)))) ?_
  refine x_val rfl rfl rfl (v_move rfl) ?_
  refine x_val rfl rfl rfl (v_extract rfl rfl) ?_
  refine x_val rfl rfl rfl (v_extract rfl rfl) ?_
  refine x_bool rfl rfl rfl (v_extract rfl rfl) ?_
  intro b11 hb11
  refine x_val rfl rfl rfl (v_assign rfl) ?_
  refine x_val rfl rfl rfl (v_assign rfl) ?_
  refine x_val rfl rfl rfl (v_assign rfl) ?_
  refine x_end ?_
  refine t_norm ?_
  refine w_seq ?_
  refine rg_text ?_
  refine x_val rfl rfl rfl (v_move rfl) ?_
  refine x_callv rfl rfl rfl Tryz.func39 (by kernel_rfl) rfl (fun w1 hw1 => c_read (cutD s).1 w1 (by have := (cutD_sz s).1; omega) (hL.later (hw1.base (by simp)))) ?_
  refine x_val rfl rfl rfl (v_move rfl) ?_
  refine x_callv rfl rfl rfl Tryz.func39 (by kernel_rfl) rfl (fun w1 hw1 => c_read (cutD s).2.1 w1 (by have := (cutD_sz s).2; omega) (hL.later (hw1.base (by simp)))) ?_
  refine x_val rfl rfl rfl (v_buildL (places := [(0, 1), (1, 1)]) Tryz.underlying23 zr23 (by kernel_rfl) rfl rfl) ?_
  refine x_store0 [] rfl rfl rfl rfl sz23 rfl rfl ?_
  refine x_end ?_
  refine t_norm ?_
  refine w_ret ?_
  refine retc (cs := #[.int .i64 (recS s).1, .int .i64 (recS s).2]) rfl rfl (.head _) Tryz.underlying23 rfl sz23 (fun w' hm => ⟨rfl, hm.base (by simp)⟩)
set_option maxRecDepth 100000 in
theorem c_SEq {u v : Value} {xs ys : List ByteArray} {D1 D2 : Nat → Prop} (w : World) (h1s : sliceRd tyStr D1 w u xs) (h2s : sliceRd tyStr D2 w v ys) :
    Calls Tryz.prog 67 #[u, v] w fun e w' => e = .returned (.bool (decide (xs = ys))) ∧ Later w w' := by
  obtain ⟨A1, c1, rfl, hl1, hm1, _⟩ := id h1s
  obtain ⟨A2, c2, rfl, hl2, hm2, _⟩ := id h2s
  refine enter (vs := [.slice A1 xs.length c1, .slice A2 ys.length c2]) Tryz.func67 rfl Tryz.ntmps67 rfl ?_
  refine w_seq ?_
  refine rg_text ?_
  refine x_val rfl rfl rfl (v_assign rfl) ?_
  refine x_end ?_
  refine t_norm ?_
  refine w_seq ?_
  refine w_seq ?_
  refine rg_text ?_
  refine x_val rfl rfl rfl (v_move rfl) ?_
  refine x_val rfl rfl rfl (v_len_slice Tryz.underlying54 rfl) ?_
  refine x_val rfl rfl rfl (v_move rfl) ?_
  refine x_val rfl rfl rfl (v_len_slice Tryz.underlying54 rfl) ?_
  refine x_bool rfl rfl rfl (v_neq rfl rfl) ?_
  intro b10 hb10
  refine x_end ?_
  refine t_norm ?_
  refine w_cond rfl (fun hc10 => ?_) (fun hc10 => ?_)
  · simp only [hb10, decide_eq_true_eq, decide_eq_false_iff_not, Bool.and_eq_true, Bool.or_eq_true, Bool.and_eq_false_iff, Bool.or_eq_false_iff, Bool.not_eq_true', Bool.not_eq_false', ne_eq, Decidable.not_not] at hc10
    have hne : xs ≠ ys := fun h => by rw [h] at hc10; exact hc10 rfl
    refine w_seq ?_
    refine rg_text ?_
    refine x_val rfl rfl rfl (v_assign rfl) ?_
    refine x_end ?_
    refine t_norm ?_
    refine w_ret ?_
    refine t_ret ?_
    refine ret1 rfl rfl (fun w' hm => ⟨?_, hm.base (by simp)⟩)
    rw [decide_eq_false (hne)]
  · simp only [hb10, decide_eq_true_eq, decide_eq_false_iff_not, Bool.and_eq_true, Bool.or_eq_true, Bool.and_eq_false_iff, Bool.or_eq_false_iff, Bool.not_eq_true', Bool.not_eq_false', ne_eq, Decidable.not_not] at hc10
    have hlen : xs.length = ys.length := by omega
    refine w_skip ?_
    refine t_norm ?_
    refine w_seq ?_
    refine w_seq ?_
    refine rg_text ?_
    refine x_val rfl rfl rfl (v_move rfl) ?_
    refine x_val rfl rfl rfl (v_len_slice Tryz.underlying54 rfl) ?_
    refine x_val rfl rfl rfl (v_move rfl) ?_
    refine x_end ?_
    refine t_norm ?_
    refine w_block ?_
    refine w_loop (σ := Nat) (fun x => x ≤ xs.length ∧ xs.take x = ys.take x) (fun x => [(0, Value.slice A1 xs.length c1), (1, Value.slice A2 ys.length c2), (11, Value.slice A1 xs.length c1), (12, Value.int .i64 (xs.length : Nat)), (13, Value.int .i64 (x : Nat))]) (fun x => []) (fun x => [(w, fun _ => True)]) (fun x => xs.length - x) (0) (⟨Nat.zero_le _, rfl⟩) (l_start (by repeat (first | exact Sub.nil | refine Sub.cons rfl ?_)) (fun _ h => h)) ?_
    rintro k ⟨hk, ht⟩
    refine w_state ([(0, Value.slice A1 xs.length c1), (1, Value.slice A2 ys.length c2), (11, Value.slice A1 xs.length c1), (12, Value.int .i64 (xs.length : Nat)), (13, Value.int .i64 (k : Nat))]) ([]) ([(w, fun _ => True)]) ?_
    refine w_seq ?_
    refine rg_text ?_
    refine x_bool rfl rfl rfl (v_lss rfl rfl) ?_
    intro b14 hb14
    refine x_end ?_
    refine t_norm ?_
    refine w_seq ?_
    refine w_cond rfl (fun hc14 => ?_) (fun hc14 => ?_)
    · simp only [hb14, decide_eq_true_eq, decide_eq_false_iff_not, Bool.and_eq_true, Bool.or_eq_true, Bool.and_eq_false_iff, Bool.or_eq_false_iff, Bool.not_eq_true', Bool.not_eq_false', ne_eq, Decidable.not_not] at hc14
      have h1 : k < xs.length := by omega
      have h2 : k < ys.length := by omega
      obtain ⟨b1, o1, hA1, _, t1, _⟩ := s_at h1s h1
      obtain ⟨b2, o2, hA2, _, t2, _⟩ := s_at h2s h2
      refine w_skip ?_
      refine t_norm ?_
      refine w_seq ?_
      refine w_block ?_
      refine w_seq ?_
      refine rg_text ?_
      refine x_val rfl rfl rfl (v_move rfl) ?_
      refine x_val rfl rfl rfl (v_assign rfl) ?_
      refine x_end ?_
      refine t_norm ?_
      refine w_seq ?_
      refine rg_draw 9 [(true, 0), (true, 1), (true, 2), (true, 3), (true, 4), (true, 5), (true, 6), (true, 7), (true, 8)] (by kernel_rfl) (by kernel_rfl) ?_
      refine x_val rfl rfl rfl (v_move rfl) ?_
      refine x_val rfl rfl rfl (v_move rfl) ?_
      refine x_val rfl rfl rfl (v_indexAddr Tryz.underlying54 sz9 (congrArg (fun A => some (Value.slice A xs.length c1)) hA1) rfl (by first | omega | (dsimp only; omega)) rfl) ?_
      refine x_val rfl rfl rfl (v_load Tryz.underlying9 rfl rfl (at_ro (.head _) trivial (by rw [Nat.mul_one]; exact t1))) ?_
      refine x_val rfl rfl rfl (v_move rfl) ?_
      refine x_val rfl rfl rfl (v_move rfl) ?_
      refine x_val rfl rfl rfl (v_indexAddr Tryz.underlying54 sz9 (congrArg (fun A => some (Value.slice A ys.length c2)) hA2) rfl (by first | omega | (dsimp only; omega)) rfl) ?_
      refine x_val rfl rfl rfl (v_load Tryz.underlying9 rfl rfl (at_ro (.head _) trivial (by rw [Nat.mul_one]; exact t2))) ?_
      refine x_bool rfl rfl rfl (v_sneq rfl rfl) ?_
      intro b24 hb24
      refine x_end ?_
      refine t_norm ?_
      refine w_cond rfl (fun hc24 => ?_) (fun hc24 => ?_)
      · simp only [hb24, decide_eq_true_eq, decide_eq_false_iff_not, Bool.and_eq_true, Bool.or_eq_true, Bool.and_eq_false_iff, Bool.or_eq_false_iff, Bool.not_eq_true', Bool.not_eq_false', ne_eq, Decidable.not_not] at hc24
        have hne : xs ≠ ys := ne_at h1 h2 hc24
        refine w_seq ?_
        refine rg_text ?_
        refine x_val rfl rfl rfl (v_assign rfl) ?_
        refine x_end ?_
        refine t_norm ?_
        refine w_ret ?_
        refine b_ret ?_
        refine t_ret ?_
        refine t_ret ?_
        refine b_ret ?_
        refine t_ret ?_
        refine ret1 rfl rfl (fun w' hm => ⟨?_, hm.base (by simp)⟩)
        rw [decide_eq_false (hne)]
      · simp only [hb24, decide_eq_true_eq, decide_eq_false_iff_not, Bool.and_eq_true, Bool.or_eq_true, Bool.and_eq_false_iff, Bool.or_eq_false_iff, Bool.not_eq_true', Bool.not_eq_false', ne_eq, Decidable.not_not] at hc24
        refine w_skip ?_
        refine b_norm ?_
        refine t_norm ?_
        refine rg_text ?_
        refine x_val rfl rfl rfl (v_addi rfl rfl rfl (by first | omega | (dsimp only; omega))) ?_
        refine x_val rfl rfl rfl (v_move rfl) ?_
        refine x_end ?_
        exact l_norm (k + 1) ⟨by omega, take_eq_succ h1 h2 ht hc24⟩ (by omega) (by repeat (first | exact Sub.nil | refine Sub.cons rfl ?_)) (fun _ h => h)
    · simp only [hb14, decide_eq_true_eq, decide_eq_false_iff_not, Bool.and_eq_true, Bool.or_eq_true, Bool.and_eq_false_iff, Bool.or_eq_false_iff, Bool.not_eq_true', Bool.not_eq_false', ne_eq, Decidable.not_not] at hc14
      obtain rfl : k = xs.length := by omega
      refine w_exit ?_
      refine t_exit ?_
      refine t_exit ?_
      refine b_hit ?_
      refine t_norm ?_
      refine w_seq ?_
      refine rg_text ?_
      refine x_val rfl rfl rfl (v_assign rfl) ?_
      refine x_end ?_
      refine t_norm ?_
      refine w_ret ?_
      refine ret1 rfl rfl (fun w' hm => ⟨?_, hm.base (by simp)⟩)
      rw [decide_eq_true (take_all hlen ht)]
set_option maxRecDepth 100000 in
theorem c_EF2 {u v : Value} {xs ys : List (List ByteArray)} {D1 D2 : Nat → Prop} (w : World) (h1s : sliceRd (tySlice tyStr) D1 w u xs) (h2s : sliceRd (tySlice tyStr) D2 w v ys) :
    Calls Tryz.prog 66 #[u, v, .func (.func 67) #[] #[]] w fun e w' => e = .returned (.bool (decide (xs = ys))) ∧ Later w w' := by
  obtain ⟨A1, c1, rfl, hl1, hm1, _⟩ := id h1s
  obtain ⟨A2, c2, rfl, hl2, hm2, _⟩ := id h2s
  refine enter (vs := [.slice A1 xs.length c1, .slice A2 ys.length c2, .func (.func 67) #[] #[]]) Tryz.func66 rfl Tryz.ntmps66 rfl ?_
  refine w_seq ?_
  refine rg_text ?_
  refine x_val rfl rfl rfl (v_assign rfl) ?_
  refine x_end ?_
  refine t_norm ?_
  refine w_seq ?_
  refine w_seq ?_
  refine rg_text ?_
  refine x_val rfl rfl rfl (v_move rfl) ?_
  refine x_val rfl rfl rfl (v_len_slice Tryz.underlying47 rfl) ?_
  refine x_val rfl rfl rfl (v_move rfl) ?_
  refine x_val rfl rfl rfl (v_len_slice Tryz.underlying47 rfl) ?_
  refine x_bool rfl rfl rfl (v_neq rfl rfl) ?_
  intro b14 hb14
  refine x_end ?_
  refine t_norm ?_
  refine w_cond rfl (fun hc14 => ?_) (fun hc14 => ?_)
  · simp only [hb14, decide_eq_true_eq, decide_eq_false_iff_not, Bool.and_eq_true, Bool.or_eq_true, Bool.and_eq_false_iff, Bool.or_eq_false_iff, Bool.not_eq_true', Bool.not_eq_false', ne_eq, Decidable.not_not] at hc14
    have hne : xs ≠ ys := fun h => by rw [h] at hc14; exact hc14 rfl
    refine w_seq ?_
    refine rg_text ?_
    refine x_val rfl rfl rfl (v_assign rfl) ?_
    refine x_end ?_
    refine t_norm ?_
    refine w_ret ?_
    refine t_ret ?_
    refine ret1 rfl rfl (fun w' hm => ⟨?_, hm.base (by simp)⟩)
    rw [decide_eq_false (hne)]
  · simp only [hb14, decide_eq_true_eq, decide_eq_false_iff_not, Bool.and_eq_true, Bool.or_eq_true, Bool.and_eq_false_iff, Bool.or_eq_false_iff, Bool.not_eq_true', Bool.not_eq_false', ne_eq, Decidable.not_not] at hc14
    have hlen : xs.length = ys.length := by omega
    refine w_skip ?_
    refine t_norm ?_
    refine w_seq ?_
    refine w_seq ?_
    refine rg_text ?_
    refine x_val rfl rfl rfl (v_move rfl) ?_
    refine x_val rfl rfl rfl (v_len_slice Tryz.underlying47 rfl) ?_
    refine x_val rfl rfl rfl (v_move rfl) ?_
    refine x_end ?_
    refine t_norm ?_
    refine w_block ?_
    refine w_loop (σ := Nat) (fun x => x ≤ xs.length ∧ xs.take x = ys.take x) (fun x => [(0, Value.slice A1 xs.length c1), (1, Value.slice A2 ys.length c2), (2, Value.func (.func 67) #[] #[]), (15, Value.slice A1 xs.length c1), (16, Value.int .i64 (xs.length : Nat)), (17, Value.int .i64 (x : Nat))]) (fun x => []) (fun x => [(w, fun _ => True)]) (fun x => xs.length - x) (0) (⟨Nat.zero_le _, rfl⟩) (l_start (by repeat (first | exact Sub.nil | refine Sub.cons rfl ?_)) (fun _ h => h)) ?_
    rintro k ⟨hk, ht⟩
    refine w_state ([(0, Value.slice A1 xs.length c1), (1, Value.slice A2 ys.length c2), (2, Value.func (.func 67) #[] #[]), (15, Value.slice A1 xs.length c1), (16, Value.int .i64 (xs.length : Nat)), (17, Value.int .i64 (k : Nat))]) ([]) ([(w, fun _ => True)]) ?_
    refine w_seq ?_
    refine rg_text ?_
    refine x_bool rfl rfl rfl (v_lss rfl rfl) ?_
    intro b18 hb18
    refine x_end ?_
    refine t_norm ?_
    refine w_seq ?_
    refine w_cond rfl (fun hc18 => ?_) (fun hc18 => ?_)
    · simp only [hb18, decide_eq_true_eq, decide_eq_false_iff_not, Bool.and_eq_true, Bool.or_eq_true, Bool.and_eq_false_iff, Bool.or_eq_false_iff, Bool.not_eq_true', Bool.not_eq_false', ne_eq, Decidable.not_not] at hc18
      have h1 : k < xs.length := by omega
      have h2 : k < ys.length := by omega
      obtain ⟨b1, o1, u1, hA1, _, t1, r1⟩ := sl_at h1s h1
      obtain ⟨b2, o2, u2, hA2, _, t2, r2⟩ := sl_at h2s h2
      obtain ⟨B1, d1, rfl, _⟩ := id r1
      obtain ⟨B2, d2, rfl, _⟩ := id r2
      refine w_skip ?_
      refine t_norm ?_
      refine w_seq ?_
      refine w_block ?_
      refine w_seq ?_
      refine rg_text ?_
      refine x_val rfl rfl rfl (v_move rfl) ?_
      refine x_val rfl rfl rfl (v_indexAddr Tryz.underlying47 sz54 (congrArg (fun A => some (Value.slice A xs.length c1)) hA1) rfl (by first | omega | (dsimp only; omega)) rfl) ?_
      refine x_val rfl rfl rfl (v_load Tryz.underlying54 rfl rfl (at_ro (.head _) trivial (by rw [Nat.mul_one]; exact t1))) ?_
      refine x_val rfl rfl rfl (v_assign rfl) ?_
      refine x_val rfl rfl rfl (v_assign rfl) ?_
      refine x_end ?_
      refine t_norm ?_
      refine w_seq ?_
      refine rg_text ?_
      refine x_val rfl rfl rfl (v_move rfl) ?_
      refine x_val rfl rfl rfl (v_move rfl) ?_
      refine x_val rfl rfl rfl (v_indexAddr Tryz.underlying47 sz54 (congrArg (fun A => some (Value.slice A ys.length c2)) hA2) rfl (by first | omega | (dsimp only; omega)) rfl) ?_
      refine x_val rfl rfl rfl (v_load Tryz.underlying54 rfl rfl (at_ro (.head _) trivial (by rw [Nat.mul_one]; exact t2))) ?_
      refine x_val rfl rfl rfl (v_assign rfl) ?_
      refine x_end ?_
      refine t_norm ?_
      refine w_seq ?_
      refine rg_text ?_
      refine x_val rfl rfl rfl (v_move rfl) ?_
      refine x_val rfl rfl rfl (v_move rfl) ?_
      refine x_val rfl rfl rfl (v_move rfl) ?_
      refine x_clb rfl rfl rfl rfl Tryz.func67 (by kernel_rfl) rfl (fun w1 hw1 => by exact calls_clp (c_SEq (xs := xs[k]) (ys := ys[k]) w1 (r1.keep (Kept.later (hw1.base (by simp)))) (r2.keep (Kept.later (hw1.base (by simp)))))) ?_
      intro b29 hb29
      refine x_bool rfl rfl rfl (v_not rfl) ?_
      intro b30 hb30
      refine x_end ?_
      refine t_norm ?_
      refine w_cond rfl (fun hc30 => ?_) (fun hc30 => ?_)
      · have hne : xs ≠ ys := ne_at h1 h2 (fun h => by rw [hb30, hb29, decide_eq_true h] at hc30; cases hc30)
        refine w_seq ?_
        refine rg_text ?_
        refine x_val rfl rfl rfl (v_assign rfl) ?_
        refine x_end ?_
        refine t_norm ?_
        refine w_ret ?_
        refine b_ret ?_
        refine t_ret ?_
        refine t_ret ?_
        refine b_ret ?_
        refine t_ret ?_
        refine ret1 rfl rfl (fun w' hm => ⟨?_, hm.base (by simp)⟩)
        rw [decide_eq_false (hne)]
      · have heq : xs[k] = ys[k] := by
          rw [hb30, hb29] at hc30
          exact of_decide_eq_true (by simpa using hc30)
        refine w_skip ?_
        refine b_norm ?_
        refine t_norm ?_
        refine rg_text ?_
        refine x_val rfl rfl rfl (v_addi rfl rfl rfl (by first | omega | (dsimp only; omega))) ?_
        refine x_val rfl rfl rfl (v_move rfl) ?_
        refine x_end ?_
        exact l_norm (k + 1) ⟨by omega, take_eq_succ h1 h2 ht heq⟩ (by omega) (by repeat (first | exact Sub.nil | refine Sub.cons rfl ?_)) (fun _ h => h)
    · simp only [hb18, decide_eq_true_eq, decide_eq_false_iff_not, Bool.and_eq_true, Bool.or_eq_true, Bool.and_eq_false_iff, Bool.or_eq_false_iff, Bool.not_eq_true', Bool.not_eq_false', ne_eq, Decidable.not_not] at hc18
      obtain rfl : k = xs.length := by omega
      refine w_exit ?_
      refine t_exit ?_
      refine t_exit ?_
      refine b_hit ?_
      refine t_norm ?_
      refine w_seq ?_
      refine rg_text ?_
      refine x_val rfl rfl rfl (v_assign rfl) ?_
      refine x_end ?_
      refine t_norm ?_
      refine w_ret ?_
      refine ret1 rfl rfl (fun w' hm => ⟨?_, hm.base (by simp)⟩)
      rw [decide_eq_true (take_all hlen ht)]
set_option maxRecDepth 100000 in
theorem c_same1 {u v : Value} {x y : Seg} {D1 D2 : Nat → Prop} (w : World) (h1s : sliceRd (tySlice tyStr) D1 w u x.els) (h2s : sliceRd (tySlice tyStr) D2 w v y.els) :
    Calls Tryz.prog 65 #[.agg #[.string x.tag, u], .agg #[.string y.tag, v]] w fun e w' => e = .returned (.bool (decide (x = y))) ∧ Later w w' := by
  refine enter (vs := [.agg #[.string x.tag, u], .agg #[.string y.tag, v]]) Tryz.func65 rfl Tryz.ntmps65 rfl ?_
  refine w_seq ?_
  refine rg_text ?_
  refine x_box rfl rfl rfl rfl ?_
  intro p2
  refine x_box rfl rfl rfl rfl ?_
  intro p3
  refine x_val rfl rfl rfl (v_assign rfl) ?_
  refine x_end ?_
  refine t_norm ?_
  refine w_seq ?_
  refine rg_text ?_
  refine x_val rfl rfl rfl (v_fieldAddr (off' := 0) Tryz.underlying49 rfl sz9 (by decide) rfl rfl) ?_
  refine x_val rfl rfl rfl (v_load Tryz.underlying9 rfl rfl (at_ownL (vs := [Value.string x.tag, u]) (.tail _ (.head _)) rfl)) ?_
  refine x_val rfl rfl rfl (v_fieldAddr (off' := 0) Tryz.underlying49 rfl sz9 (by decide) rfl rfl) ?_
  refine x_val rfl rfl rfl (v_load Tryz.underlying9 rfl rfl (at_ownL (vs := [Value.string y.tag, v]) (.head _) rfl)) ?_
  refine x_bool rfl rfl rfl (v_seql rfl rfl) ?_
  intro b9 hb9
  refine x_val rfl rfl rfl (v_move rfl) ?_
  refine x_if [] rfl rfl rfl rfl rfl (fun hg => by obtain ⟨hg0, _⟩ := hg; subst hg0; (try simp only [List.cons_append, List.nil_append, gvl_nil, gvl_t, gvl_f]); exact v_fieldAddr (off' := 1) Tryz.underlying49 rfl sz47 (by decide) rfl rfl) ?_
  refine x_if [] rfl rfl rfl rfl rfl (fun hg => by obtain ⟨hg0, _⟩ := hg; subst hg0; (try simp only [List.cons_append, List.nil_append, gvl_nil, gvl_t, gvl_f]); exact v_load Tryz.underlying47 rfl rfl (at_ownL (vs := [Value.string x.tag, u]) (.tail _ (.head _)) rfl)) ?_
  refine x_if [] rfl rfl rfl rfl rfl (fun hg => by obtain ⟨hg0, _⟩ := hg; subst hg0; (try simp only [List.cons_append, List.nil_append, gvl_nil, gvl_t, gvl_f]); exact v_fieldAddr (off' := 1) Tryz.underlying49 rfl sz47 (by decide) rfl rfl) ?_
  refine x_if [] rfl rfl rfl rfl rfl (fun hg => by obtain ⟨hg0, _⟩ := hg; subst hg0; (try simp only [List.cons_append, List.nil_append, gvl_nil, gvl_t, gvl_f]); exact v_load Tryz.underlying47 rfl rfl (at_ownL (vs := [Value.string y.tag, v]) (.head _) rfl)) ?_
  refine x_call_ifb [] rfl rfl rfl rfl rfl Tryz.func66 (by kernel_rfl) (fun hg => by obtain ⟨hg0, _⟩ := hg; subst hg0; (try simp only [List.cons_append, List.nil_append, gvl_nil, gvl_t, gvl_f]); refine ⟨_, rfl, ?_⟩; exact fun w1 hw1 => c_EF2 (xs := x.els) (ys := y.els) w1 (h1s.keep (Kept.later (hw1.base (by simp)))) (h2s.keep (Kept.later (hw1.base (by simp))))) ?_
  intro b15 hb15
  refine x_bool rfl rfl rfl (v_and rfl rfl) ?_
  intro b16 hb16
  refine x_val rfl rfl rfl (v_assign rfl) ?_
  refine x_end ?_
  refine t_norm ?_
  refine w_ret ?_
  refine ret1 rfl rfl (fun w' hm => ⟨?_, hm.base (by simp)⟩)
  congr 3
  rw [hb16, hb15, hb9, Bool.eq_iff_iff]
  simp only [Bool.and_eq_true, decide_eq_true_eq]
  constructor
  · rintro ⟨h1, h2⟩; exact seg_ext h1 h2
  · rintro rfl; exact ⟨rfl, rfl⟩
set_option maxRecDepth 100000 in
theorem c_EF1 {u v : Value} {xs ys : List Seg} {D1 D2 : Nat → Prop} (w : World) (h1s : sliceRd tySeg D1 w u xs) (h2s : sliceRd tySeg D2 w v ys) :
    Calls Tryz.prog 64 #[u, v, .func (.func 65) #[] #[]] w fun e w' => e = .returned (.bool (decide (xs = ys))) ∧ Later w w' := by
  obtain ⟨A1, c1, rfl, hl1, hm1, _⟩ := id h1s
  obtain ⟨A2, c2, rfl, hl2, hm2, _⟩ := id h2s
  refine enter (vs := [.slice A1 xs.length c1, .slice A2 ys.length c2, .func (.func 65) #[] #[]]) Tryz.func64 rfl Tryz.ntmps64 rfl ?_
  refine w_seq ?_
  refine rg_text ?_
  refine x_val rfl rfl rfl (v_assign rfl) ?_
  refine x_end ?_
  refine t_norm ?_
  refine w_seq ?_
  refine w_seq ?_
  refine rg_text ?_
  refine x_val rfl rfl rfl (v_move rfl) ?_
  refine x_val rfl rfl rfl (v_len_slice Tryz.underlying29 rfl) ?_
  refine x_val rfl rfl rfl (v_move rfl) ?_
  refine x_val rfl rfl rfl (v_len_slice Tryz.underlying29 rfl) ?_
  refine x_bool rfl rfl rfl (v_neq rfl rfl) ?_
  intro b14 hb14
  refine x_end ?_
  refine t_norm ?_
  refine w_cond rfl (fun hc14 => ?_) (fun hc14 => ?_)
  · simp only [hb14, decide_eq_true_eq, decide_eq_false_iff_not, Bool.and_eq_true, Bool.or_eq_true, Bool.and_eq_false_iff, Bool.or_eq_false_iff, Bool.not_eq_true', Bool.not_eq_false', ne_eq, Decidable.not_not] at hc14
    have hne : xs ≠ ys := fun h => by rw [h] at hc14; exact hc14 rfl
    refine w_seq ?_
    refine rg_text ?_
    refine x_val rfl rfl rfl (v_assign rfl) ?_
    refine x_end ?_
    refine t_norm ?_
    refine w_ret ?_
    refine t_ret ?_
    refine ret1 rfl rfl (fun w' hm => ⟨?_, hm.base (by simp)⟩)
    rw [decide_eq_false (hne)]
  · simp only [hb14, decide_eq_true_eq, decide_eq_false_iff_not, Bool.and_eq_true, Bool.or_eq_true, Bool.and_eq_false_iff, Bool.or_eq_false_iff, Bool.not_eq_true', Bool.not_eq_false', ne_eq, Decidable.not_not] at hc14
    have hlen : xs.length = ys.length := by omega
    refine w_skip ?_
    refine t_norm ?_
    refine w_seq ?_
    refine w_seq ?_
    refine rg_text ?_
    refine x_val rfl rfl rfl (v_move rfl) ?_
    refine x_val rfl rfl rfl (v_len_slice Tryz.underlying29 rfl) ?_
    refine x_val rfl rfl rfl (v_move rfl) ?_
    refine x_end ?_
    refine t_norm ?_
    refine w_block ?_
    refine w_loop (σ := Nat) (fun x => x ≤ xs.length ∧ xs.take x = ys.take x) (fun x => [(0, Value.slice A1 xs.length c1), (1, Value.slice A2 ys.length c2), (2, Value.func (.func 65) #[] #[]), (15, Value.slice A1 xs.length c1), (16, Value.int .i64 (xs.length : Nat)), (17, Value.int .i64 (x : Nat))]) (fun x => []) (fun x => [(w, fun _ => True)]) (fun x => xs.length - x) (0) (⟨Nat.zero_le _, rfl⟩) (l_start (by repeat (first | exact Sub.nil | refine Sub.cons rfl ?_)) (fun _ h => h)) ?_
    rintro k ⟨hk, ht⟩
    refine w_state ([(0, Value.slice A1 xs.length c1), (1, Value.slice A2 ys.length c2), (2, Value.func (.func 65) #[] #[]), (15, Value.slice A1 xs.length c1), (16, Value.int .i64 (xs.length : Nat)), (17, Value.int .i64 (k : Nat))]) ([]) ([(w, fun _ => True)]) ?_
    refine w_seq ?_
    refine rg_text ?_
    refine x_bool rfl rfl rfl (v_lss rfl rfl) ?_
    intro b18 hb18
    refine x_end ?_
    refine t_norm ?_
    refine w_seq ?_
    refine w_cond rfl (fun hc18 => ?_) (fun hc18 => ?_)
    · simp only [hb18, decide_eq_true_eq, decide_eq_false_iff_not, Bool.and_eq_true, Bool.or_eq_true, Bool.and_eq_false_iff, Bool.or_eq_false_iff, Bool.not_eq_true', Bool.not_eq_false', ne_eq, Decidable.not_not] at hc18
      have h1 : k < xs.length := by omega
      have h2 : k < ys.length := by omega
      obtain ⟨b1, o1, u1, hA1, _, t1, v1, _, r1⟩ := seg_at h1s h1
      obtain ⟨b2, o2, u2, hA2, _, t2, v2, _, r2⟩ := seg_at h2s h2
      obtain ⟨B1, d1, rfl, _⟩ := id r1
      obtain ⟨B2, d2, rfl, _⟩ := id r2
      refine w_skip ?_
      refine t_norm ?_
      refine w_seq ?_
      refine w_block ?_
      refine w_seq ?_
      refine rg_text ?_
      refine x_val rfl rfl rfl (v_move rfl) ?_
      refine x_val rfl rfl rfl (v_indexAddr Tryz.underlying29 sz49 (congrArg (fun A => some (Value.slice A xs.length c1)) hA1) rfl (by first | omega | (dsimp only; omega)) rfl) ?_
      refine x_val rfl rfl rfl (v_loadN (vs := [Value.string xs[k].tag, .slice B1 xs[k].els.length d1]) Tryz.underlying49 rfl sz49 rfl (fun i hi => by match i, hi with | 0, _ => exact at_ro (.head _) trivial t1 | 1, _ => exact at_ro (.head _) trivial v1)) ?_
      refine x_alloc rfl rfl rfl zr49 ?_
      intro p8
      refine x_val rfl rfl rfl (v_assign rfl) ?_
      refine x_store0 [] rfl rfl rfl rfl sz49 rfl rfl ?_
      refine x_end ?_
      refine t_norm ?_
      refine w_seq ?_
      refine rg_text ?_
      refine x_val rfl rfl rfl (v_move rfl) ?_
      refine x_val rfl rfl rfl (v_move rfl) ?_
      refine x_val rfl rfl rfl (v_indexAddr Tryz.underlying29 sz49 (congrArg (fun A => some (Value.slice A ys.length c2)) hA2) rfl (by first | omega | (dsimp only; omega)) rfl) ?_
      refine x_val rfl rfl rfl (v_loadN (vs := [Value.string ys[k].tag, .slice B2 ys[k].els.length d2]) Tryz.underlying49 rfl sz49 rfl (fun i hi => by match i, hi with | 0, _ => exact at_ro (.head _) trivial t2 | 1, _ => exact at_ro (.head _) trivial v2)) ?_
      refine x_alloc rfl rfl rfl zr49 ?_
      intro p9
      refine x_store0 [] rfl rfl rfl rfl sz49 rfl rfl ?_
      refine x_end ?_
      refine t_norm ?_
      refine w_seq ?_
      refine rg_text ?_
      refine x_val rfl rfl rfl (v_move rfl) ?_
      refine x_val rfl rfl rfl (v_load_blk (e := 49) (fz := (0, 0)) (cs := [Value.string xs[k].tag, .slice B1 xs[k].els.length d1].toArray) Tryz.underlying49 rfl rfl (.tail _ (.head _)) sz49) ?_
      refine x_val rfl rfl rfl (v_load_blk (e := 49) (fz := (0, 0)) (cs := [Value.string ys[k].tag, .slice B2 ys[k].els.length d2].toArray) Tryz.underlying49 rfl rfl (.head _) sz49) ?_
      refine x_clb rfl rfl rfl rfl Tryz.func65 (by kernel_rfl) rfl (fun w1 hw1 => by exact calls_clp (c_same1 (x := xs[k]) (y := ys[k]) w1 (r1.keep (Kept.later (hw1.base (by simp)))) (r2.keep (Kept.later (hw1.base (by simp)))))) ?_
      intro b29 hb29
      refine x_bool rfl rfl rfl (v_not rfl) ?_
      intro b30 hb30
      refine x_end ?_
      refine t_norm ?_
      refine w_cond rfl (fun hc30 => ?_) (fun hc30 => ?_)
      · have hne : xs ≠ ys := ne_at h1 h2 (fun h => by rw [hb30, hb29, decide_eq_true h] at hc30; cases hc30)
        refine w_seq ?_
        refine rg_text ?_
        refine x_val rfl rfl rfl (v_assign rfl) ?_
        refine x_end ?_
        refine t_norm ?_
        refine w_ret ?_
        refine b_ret ?_
        refine t_ret ?_
        refine t_ret ?_
        refine b_ret ?_
        refine t_ret ?_
        refine ret1 rfl rfl (fun w' hm => ⟨?_, hm.base (by simp)⟩)
        rw [decide_eq_false (hne)]
      · have heq : xs[k] = ys[k] := by
          rw [hb30, hb29] at hc30
          exact of_decide_eq_true (by simpa using hc30)
        refine w_skip ?_
        refine b_norm ?_
        refine t_norm ?_
        refine rg_text ?_
        refine x_val rfl rfl rfl (v_addi rfl rfl rfl (by first | omega | (dsimp only; omega))) ?_
        refine x_val rfl rfl rfl (v_move rfl) ?_
        refine x_end ?_
        exact l_norm (k + 1) ⟨by omega, take_eq_succ h1 h2 ht heq⟩ (by omega) (by repeat (first | exact Sub.nil | refine Sub.cons rfl ?_)) (fun _ h => h.less (List.nil_sublist _) (fun _ h => h))
    · simp only [hb18, decide_eq_true_eq, decide_eq_false_iff_not, Bool.and_eq_true, Bool.or_eq_true, Bool.and_eq_false_iff, Bool.or_eq_false_iff, Bool.not_eq_true', Bool.not_eq_false', ne_eq, Decidable.not_not] at hc18
      obtain rfl : k = xs.length := by omega
      refine w_exit ?_
      refine t_exit ?_
      refine t_exit ?_
      refine b_hit ?_
      refine t_norm ?_
      refine w_seq ?_
      refine rg_text ?_
      refine x_val rfl rfl rfl (v_assign rfl) ?_
      refine x_end ?_
      refine t_norm ?_
      refine w_ret ?_
      refine ret1 rfl rfl (fun w' hm => ⟨?_, hm.base (by simp)⟩)
      rw [decide_eq_true (take_all hlen ht)]
set_option maxRecDepth 100000 in
theorem c_same {u v : Value} {xs ys : List Seg} {D1 D2 : Nat → Prop} (w : World) (h1s : sliceRd tySeg D1 w u xs) (h2s : sliceRd tySeg D2 w v ys) :
    Calls Tryz.prog 42 #[u, v] w fun e w' => e = .returned (.bool (decide (xs = ys))) ∧ Later w w' := by
  refine enter (vs := [u, v]) Tryz.func42 rfl Tryz.ntmps42 rfl ?_
  refine w_seq ?_
  refine rg_text ?_
  refine x_val rfl rfl rfl (v_assign rfl) ?_
  refine x_end ?_
  refine t_norm ?_
  refine w_seq ?_
  refine rg_text ?_
  refine x_val rfl rfl rfl (v_move rfl) ?_
  refine x_val rfl rfl rfl (v_move rfl) ?_
  refine x_callb rfl rfl rfl Tryz.func64 (by kernel_rfl) rfl (fun w1 hw1 => c_EF1 w1 (h1s.keep (Kept.later (hw1.base (by simp)))) (h2s.keep (Kept.later (hw1.base (by simp))))) ?_
  intro b7 hb7
  refine x_val rfl rfl rfl (v_assign rfl) ?_
  refine x_end ?_
  refine t_norm ?_
  refine w_ret ?_
  refine ret1 rfl rfl (fun w' hm => ⟨?_, hm.base (by simp)⟩)
  rw [hb7]

end Go.Proofs.YtbamklefagghcaaGreatDoor

namespace Go.Proofs.YtbamklefagghcaaGreatDoor
open Go.RowKit Go.PK
set_option linter.unusedVariables false
set_option linter.unusedSimpArgs false

theorem zeroO_cells : zeroO.cells = [Value.int .i64 0, .int .i64 0, .int .i64 0, .int .i64 0, .int .i64 0, .int .i64 0, .int .i64 0, .int .i64 0, .int .i64 0] := rfl
theorem atP_in {l : List Seg} (n e c : Nat) : in64 (atP l n e c).1 := by
  unfold atP
  split
  · rename_i s _
    unfold valP
    split
    · rename_i h
      have h1 := numF_lt (bl s) h.1.2.1
      have h2 : 10 ^ (bl s).length ≤ 10 ^ 9 := Nat.pow_le_pow_right (by decide) (by rw [bl_len]; exact h.2)
      have e9 : (10 : Nat) ^ 9 = 1000000000 := by decide
      unfold in64; dsimp only; omega
    · unfold in64; decide
  · unfold in64; decide
theorem valP_in {s : ByteArray} {m : Nat} (hm : m ≤ 18) : in64 (valP s m).1 := by
  unfold valP
  split
  · rename_i h
    have h1 := numF_lt (bl s) h.1.2.1
    have h2 : 10 ^ (bl s).length ≤ 10 ^ 18 := Nat.pow_le_pow_right (by decide) (by rw [bl_len]; omega)
    have e18 : (10 : Nat) ^ 18 = 1000000000000000000 := by decide
    unfold in64; dsimp only; omega
  · unfold in64; decide
theorem rrec_in64 {l : List Seg} (n : Nat) : in64 (rrec l n).1.1 ∧ in64 (rrec l n).1.2 := by
  have z : in64 (0 : Int) ∧ in64 (0 : Int) := by unfold in64; decide
  unfold rrec
  split
  · exact z
  · split
    · exact z
    · unfold rrecS
      split
      · exact ⟨valP_in (by decide), valP_in (by decide)⟩
      · exact z
theorem rdE_ok (l : List Seg) : (rdE l).ok := ⟨readP_in _, readP_in _, readP_in _, readP_in _, readP_in _, readP_in _⟩
theorem rdR_ok (l : List Seg) : (rdR l).ok := ⟨atP_in _ _ _, atP_in _ _ _, (rrec_in64 2).1, (rrec_in64 2).2, atP_in _ _ _, atP_in _ _ _⟩
theorem ord_out {v : Value} {e : Ending} {wa wb : World} {xs : List Seg} (h1 : e = .returned v) (h2 : Later wa wb) (h3 : sliceRd tySeg (fun b => wa.heap.size ≤ b) wb v xs) (h4 : xs.length = 0 → v = .slice none 0 0) :
    ∃ v, e = .returned v ∧ Later wa wb ∧ ∃ A1 c1, v = .slice A1 xs.length c1 ∧ sliceRd tySeg (fun b => wa.heap.size ≤ b) wb (.slice A1 xs.length c1) xs ∧ A1.isNone = decide (xs.length = 0) := by
  obtain ⟨A1, c1, rfl, _, _, hh⟩ := id h3
  refine ⟨_, h1, h2, A1, c1, rfl, h3, ?_⟩
  by_cases h0 : xs.length = 0
  · have h5 := h4 h0
    injection h5 with h5
    rw [h5, decide_eq_true h0]; rfl
  · obtain ⟨b, o, rfl, _⟩ := hh (by omega)
    rw [decide_eq_false h0]; rfl
set_option maxRecDepth 100000 in
theorem c_ReadOrder {v : Value} {l : List Seg} {D : Nat → Prop} (w : World) (hl : sliceRd tySeg D w v l) (hbig : bigO l) (hL : LD w) :
    Calls Tryz.prog 14 #[v] w fun e w' => e = .returned (.tuple #[.agg (rdO l).1.cells.toArray, .int .i64 (rdO l).2]) ∧ Later w w' := by
  obtain ⟨A, cp, rfl, hlc, hmx, _⟩ := id hl
  refine enter (vs := [Value.slice A l.length cp]) Tryz.func14 rfl Tryz.ntmps14 rfl ?_
  refine w_seq ?_
  refine rg_text ?_
  refine x_alloc rfl rfl rfl zr25 ?_
  intro p2
  refine x_val rfl rfl rfl (v_assign rfl) ?_
  refine x_end ?_
  refine t_norm ?_
  refine w_seq ?_
  refine rg_text ?_
  refine x_val rfl rfl rfl (v_move rfl) ?_
  refine x_callv rfl rfl rfl Tryz.func40 (by kernel_rfl) rfl (fun w1 hw1 => c_text 1 1 0 w1 (hl.keep (Kept.later (hw1.base (by simp))))) ?_
  refine x_callv rfl rfl rfl Tryz.func39 (by kernel_rfl) rfl (fun w1 hw1 => c_read (txt l 1 1 0) w1 (Nat.le_trans (txt_sz hbig 1 1 0) (by decide)) (hL.later (hw1.base (by simp)))) ?_
  refine x_val rfl rfl rfl (v_move rfl) ?_
  refine x_callv rfl rfl rfl Tryz.func40 (by kernel_rfl) rfl (fun w1 hw1 => c_text 2 2 0 w1 (hl.keep (Kept.later (hw1.base (by simp))))) ?_
  refine x_callv rfl rfl rfl Tryz.func41 (by kernel_rfl) rfl (fun w1 hw1 => c_erec (txt l 2 2 0) w1 (txt_sz hbig 2 2 0) (hL.later (hw1.base (by simp)))) ?_
  refine x_val rfl rfl rfl (v_move rfl) ?_
  refine x_callv rfl rfl rfl Tryz.func40 (by kernel_rfl) rfl (fun w1 hw1 => c_text 3 0 1 w1 (hl.keep (Kept.later (hw1.base (by simp))))) ?_
  refine x_callv rfl rfl rfl Tryz.func39 (by kernel_rfl) rfl (fun w1 hw1 => c_read (txt l 3 0 1) w1 (Nat.le_trans (txt_sz hbig 3 0 1) (by decide)) (hL.later (hw1.base (by simp)))) ?_
  refine x_val rfl rfl rfl (v_move rfl) ?_
  refine x_callv rfl rfl rfl Tryz.func40 (by kernel_rfl) rfl (fun w1 hw1 => c_text 4 0 1 w1 (hl.keep (Kept.later (hw1.base (by simp))))) ?_
  refine x_callv rfl rfl rfl Tryz.func39 (by kernel_rfl) rfl (fun w1 hw1 => c_read (txt l 4 0 1) w1 (Nat.le_trans (txt_sz hbig 4 0 1) (by decide)) (hL.later (hw1.base (by simp)))) ?_
  refine x_val rfl rfl rfl (v_move rfl) ?_
  refine x_callv rfl rfl rfl Tryz.func40 (by kernel_rfl) rfl (fun w1 hw1 => c_text 5 0 1 w1 (hl.keep (Kept.later (hw1.base (by simp))))) ?_
  refine x_callv rfl rfl rfl Tryz.func39 (by kernel_rfl) rfl (fun w1 hw1 => c_read (txt l 5 0 1) w1 (Nat.le_trans (txt_sz hbig 5 0 1) (by decide)) (hL.later (hw1.base (by simp)))) ?_
  refine x_val rfl rfl rfl (v_buildL (places := [(0, 1), (1, 1), (2, 2), (4, 1), (5, 1), (6, 1), (7, 1), (8, 1)]) Tryz.underlying25 zr25 (by kernel_rfl) rfl rfl) ?_
  refine x_alloc rfl rfl rfl zr25 ?_
  intro p4
  refine x_store0 [] rfl rfl rfl rfl sz25 rfl rfl ?_
  refine x_end ?_
  refine t_norm ?_
  refine w_seq ?_
  refine w_seq ?_
  refine rg_text ?_
  refine x_val rfl rfl rfl (v_load_blk (e := 25) (fz := (0, 0)) (cs := (rdE l).cells.toArray) Tryz.underlying25 rfl rfl (.head _) sz25) ?_
  refine x_call (R := fun v wa wb => ∃ A1 c1, v = .slice A1 (orderR (rdE l)).length c1 ∧ sliceRd tySeg (fun b => wa.heap.size ≤ b) wb (.slice A1 (orderR (rdE l)).length c1) (orderR (rdE l)) ∧ A1.isNone = decide ((orderR (rdE l)).length = 0)) rfl rfl rfl Tryz.func11 (by kernel_rfl) rfl (fun w1 hw1 => (c_Order (rdE l) w1 (rdE_ok l) (hL.later (hw1.base (by simp)))).mono fun e w2 ⟨v, h1, h2, h3, h4⟩ => ord_out h1 h2 h3 h4) ?_
  intro v23 wa23 wb23 hm23 hl23 hR23
  obtain ⟨A1, c1, rfl, hr23, hn23⟩ := hR23
  refine x_val rfl rfl rfl (v_assign rfl) ?_
  refine x_end ?_
  refine t_norm ?_
  refine w_seq ?_
  refine rg_text ?_
  refine x_val rfl rfl rfl (v_move rfl) ?_
  refine x_bool rfl rfl rfl (v_sliceNil Tryz.underlying29 rfl) ?_
  intro b25 hb25
  refine x_val rfl rfl rfl (v_move rfl) ?_
  refine x_if [] rfl rfl rfl rfl rfl (fun hg => by obtain ⟨hg0, _⟩ := hg; subst hg0; (try simp only [List.cons_append, List.nil_append, gvl_nil, gvl_t, gvl_f]); exact v_move rfl) ?_
  refine x_if [] rfl rfl rfl rfl rfl (fun hg => by obtain ⟨hg0, _⟩ := hg; subst hg0; (try simp only [List.cons_append, List.nil_append, gvl_nil, gvl_t, gvl_f]); exact v_move rfl) ?_
  refine x_call_ifb [] rfl rfl rfl rfl rfl Tryz.func42 (by kernel_rfl) (fun hg => by obtain ⟨hg0, _⟩ := hg; subst hg0; (try simp only [List.cons_append, List.nil_append, gvl_nil, gvl_t, gvl_f]); refine ⟨_, rfl, ?_⟩; exact fun w1 hw1 => c_same (xs := orderR (rdE l)) (ys := l) w1 (keep_new hr23 hw1 (by repeat (first | exact List.Mem.head _ | apply List.Mem.tail)) hm23) (hl.keep (Kept.later (hw1.base (by simp))))) ?_
  intro b29 hb29
  refine x_ifb [] rfl rfl rfl rfl rfl (fun hg => by obtain ⟨hg0, _⟩ := hg; subst hg0; (try simp only [List.cons_append, List.nil_append, gvl_nil, gvl_t, gvl_f]); exact v_not rfl) ?_
  intro b30 hb30
  refine x_bool rfl rfl rfl (v_or rfl rfl) ?_
  intro b31 hb31
  refine x_end ?_
  refine t_norm ?_
  refine w_cond rfl (fun hc31 => ?_) (fun hc31 => ?_)
  · have hno : ¬(wrO (rdE l) ∧ orderP (rdE l) = l) := fun ⟨q1, q2⟩ => by
      have q3 : orderR (rdE l) = orderP (rdE l) := by unfold orderR; rw [if_pos ((writB_iff _).2 q1)]
      rw [hb31, hb30, hb29, hb25, hn23, q3, decide_eq_true q2] at hc31
      revert hc31; simp [orderP]
    refine w_seq ?_
    refine rg_text ?_
    refine x_val rfl rfl rfl (v_buildL (places := [(0, 1), (1, 1), (2, 2), (4, 1), (5, 1), (6, 1), (7, 1), (8, 1)]) Tryz.underlying25 zr25 (by kernel_rfl) rfl rfl) ?_
    refine x_store0 [(p4, Obj.cells (rdE l).cells.toArray 25)] rfl rfl rfl rfl sz25 rfl rfl ?_
    refine x_val rfl rfl rfl (v_assign rfl) ?_
    refine x_end ?_
    refine t_norm ?_
    refine w_ret ?_
    refine t_ret ?_
    refine retct (cs := zeroO.cells.toArray) rfl rfl rfl (by repeat (first | exact List.Mem.head _ | apply List.Mem.tail)) Tryz.underlying25 rfl sz25 (fun w' hm => ⟨?_, hm.base (by simp)⟩)
    unfold rdO; rw [if_neg hno]
  · have hyes : wrO (rdE l) ∧ orderP (rdE l) = l := by
      rw [hb31, hb30, hb29, hb25, hn23] at hc31
      simp only [Bool.or_eq_false_iff, decide_eq_false_iff_not, Bool.not_eq_false', decide_eq_true_eq] at hc31
      by_cases hw : writB (rdE l) = true
      · have q3 : orderR (rdE l) = orderP (rdE l) := by unfold orderR; rw [if_pos hw]
        exact ⟨(writB_iff _).1 hw, by rw [← q3]; exact hc31.2⟩
      · exfalso; apply hc31.1; unfold orderR; rw [if_neg hw]; rfl
    refine w_skip ?_
    refine t_norm ?_
    refine w_seq ?_
    refine rg_text ?_
    refine x_val rfl rfl rfl (v_load_blk (e := 25) (fz := (0, 0)) (cs := (rdE l).cells.toArray) Tryz.underlying25 rfl rfl (.head _) sz25) ?_
    refine x_store0 [(p4, Obj.cells (rdE l).cells.toArray 25)] rfl rfl rfl rfl sz25 rfl rfl ?_
    refine x_val rfl rfl rfl (v_assign rfl) ?_
    refine x_end ?_
    refine t_norm ?_
    refine w_ret ?_
    refine retct (cs := (rdE l).cells.toArray) rfl rfl rfl (by repeat (first | exact List.Mem.head _ | apply List.Mem.tail)) Tryz.underlying25 rfl sz25 (fun w' hm => ⟨?_, hm.base (by simp)⟩)
    unfold rdO; rw [if_pos hyes]
set_option maxRecDepth 100000 in
theorem c_rReadOrder {v : Value} {l : List Seg} {D : Nat → Prop} (w : World) (hl : sliceRd tySeg D w v l)  :
    Calls Tryz.prog 27 #[v] w fun e w' => e = .returned (.tuple #[.agg (rrO l).1.cells.toArray, .int .i64 (rrO l).2]) ∧ Later w w' := by
  obtain ⟨A, cp, rfl, hlc, hmx, _⟩ := id hl
  refine enter (vs := [Value.slice A l.length cp]) Tryz.func27 rfl Tryz.ntmps27 rfl ?_
  refine w_seq ?_
  refine rg_text ?_
  refine x_alloc rfl rfl rfl zr25 ?_
  intro p2
  refine x_val rfl rfl rfl (v_assign rfl) ?_
  refine x_end ?_
  refine t_norm ?_
  refine w_seq ?_
  refine rg_text ?_
  refine x_alloc rfl rfl rfl zr25 ?_
  intro p4
  refine x_end ?_
  refine t_norm ?_
  refine w_seq ?_
  refine rg_text ?_
  refine x_val rfl rfl rfl (v_move rfl) ?_
  refine x_callv rfl rfl rfl Tryz.func57 (by kernel_rfl) rfl (fun w1 hw1 => c_rrec 2 w1 (hl.keep (Kept.later (hw1.base (by simp))))) ?_
  refine x_val rfl rfl rfl (v_move rfl) ?_
  refine x_val rfl rfl rfl (v_extract rfl rfl) ?_
  refine x_bool rfl rfl rfl (v_extract rfl rfl) ?_
  intro b21 hb21
  refine x_alloc rfl rfl rfl zr23 ?_
  intro p5
  refine x_store0 [] rfl rfl rfl rfl sz23 rfl rfl ?_
  refine x_val rfl rfl rfl (v_assign rfl) ?_
  refine x_end ?_
  refine t_norm ?_
  refine w_seq ?_
  refine rg_text ?_
  refine x_val rfl rfl rfl (v_move rfl) ?_
  refine x_callv rfl rfl rfl Tryz.func58 (by kernel_rfl) rfl (fun w1 hw1 => c_at 1 1 0 w1 (hl.keep (Kept.later (hw1.base (by simp))))) ?_
  refine x_val rfl rfl rfl (v_move rfl) ?_
  refine x_val rfl rfl rfl (v_extract rfl rfl) ?_
  refine x_bool rfl rfl rfl (v_extract rfl rfl) ?_
  intro b26 hb26
  refine x_val rfl rfl rfl (v_assign rfl) ?_
  refine x_val rfl rfl rfl (v_assign rfl) ?_
  refine x_end ?_
  refine t_norm ?_
  refine w_seq ?_
  refine rg_text ?_
  refine x_val rfl rfl rfl (v_move rfl) ?_
  refine x_callv rfl rfl rfl Tryz.func58 (by kernel_rfl) rfl (fun w1 hw1 => c_at 3 0 1 w1 (hl.keep (Kept.later (hw1.base (by simp))))) ?_
  refine x_val rfl rfl rfl (v_move rfl) ?_
  refine x_val rfl rfl rfl (v_extract rfl rfl) ?_
  refine x_bool rfl rfl rfl (v_extract rfl rfl) ?_
  intro b31 hb31
  refine x_val rfl rfl rfl (v_assign rfl) ?_
  refine x_val rfl rfl rfl (v_assign rfl) ?_
  refine x_end ?_
  refine t_norm ?_
  refine w_seq ?_
  refine rg_text ?_
  refine x_val rfl rfl rfl (v_move rfl) ?_
  refine x_callv rfl rfl rfl Tryz.func58 (by kernel_rfl) rfl (fun w1 hw1 => c_at 4 0 1 w1 (hl.keep (Kept.later (hw1.base (by simp))))) ?_
  refine x_val rfl rfl rfl (v_move rfl) ?_
  refine x_val rfl rfl rfl (v_extract rfl rfl) ?_
  refine x_bool rfl rfl rfl (v_extract rfl rfl) ?_
  intro b36 hb36
  refine x_val rfl rfl rfl (v_assign rfl) ?_
  refine x_val rfl rfl rfl (v_assign rfl) ?_
  refine x_end ?_
  refine t_norm ?_
  refine w_seq ?_
  refine rg_text ?_
  refine x_val rfl rfl rfl (v_move rfl) ?_
  refine x_callv rfl rfl rfl Tryz.func58 (by kernel_rfl) rfl (fun w1 hw1 => c_at 5 0 1 w1 (hl.keep (Kept.later (hw1.base (by simp))))) ?_
  refine x_val rfl rfl rfl (v_move rfl) ?_
  refine x_val rfl rfl rfl (v_extract rfl rfl) ?_
  refine x_bool rfl rfl rfl (v_extract rfl rfl) ?_
  intro b41 hb41
  refine x_val rfl rfl rfl (v_assign rfl) ?_
  refine x_val rfl rfl rfl (v_assign rfl) ?_
  refine x_end ?_
  refine t_norm ?_
  refine w_seq ?_
  refine rg_text ?_
  refine x_val rfl rfl rfl (v_move rfl) ?_
  refine x_val rfl rfl rfl (v_move rfl) ?_
  refine x_val rfl rfl rfl (v_load_blk (e := 23) (fz := (0, 0)) (cs := [Value.int .i64 (rrec l 2).1.1, .int .i64 (rrec l 2).1.2].toArray) Tryz.underlying23 rfl rfl (by repeat (first | exact List.Mem.head _ | apply List.Mem.tail)) sz23) ?_
  refine x_val rfl rfl rfl (v_move rfl) ?_
  refine x_val rfl rfl rfl (v_move rfl) ?_
  refine x_val rfl rfl rfl (v_buildL (places := [(0, 1), (1, 1), (2, 2), (4, 1), (5, 1), (6, 1), (7, 1), (8, 1)]) Tryz.underlying25 zr25 (by kernel_rfl) rfl rfl) ?_
  refine x_store0 [(p5, Obj.cells [Value.int .i64 (rrec l 2).1.1, .int .i64 (rrec l 2).1.2].toArray 23)] rfl rfl rfl rfl sz25 rfl rfl ?_
  refine x_end ?_
  refine t_norm ?_
  refine w_seq ?_
  refine w_state _ [(p5, Obj.cells [Value.int .i64 (rrec l 2).1.1, .int .i64 (rrec l 2).1.2].toArray 23), (p4, Obj.cells (rdR l).cells.toArray 25), (p2, Obj.cells zeroO.cells.toArray 25)] _ ?_
  refine rg_text ?_
  refine x_val rfl rfl rfl (v_load_blk (e := 25) (fz := (0, 0)) (cs := (rdR l).cells.toArray) Tryz.underlying25 rfl rfl (by repeat (first | exact List.Mem.head _ | apply List.Mem.tail)) sz25) ?_
  refine x_callb rfl rfl rfl Tryz.func34 (by kernel_rfl) rfl (fun w1 hw1 => c_rWritable (rdR l) w1) ?_
  intro b49 hb49
  refine x_val rfl rfl rfl (v_assign rfl) ?_
  refine x_end ?_
  refine t_norm ?_
  refine w_seq ?_
  refine w_seq ?_
  refine rg_text ?_
  refine x_val rfl rfl rfl (v_move rfl) ?_
  refine x_bool rfl rfl rfl (v_not rfl) ?_
  intro b51 hb51
  refine x_val rfl rfl rfl (v_move rfl) ?_
  refine x_if [] rfl rfl rfl rfl rfl (fun hg => by obtain ⟨hg0, _⟩ := hg; subst hg0; (try simp only [List.cons_append, List.nil_append, gvl_nil, gvl_t, gvl_f]); exact v_move rfl) ?_
  refine x_ifb [] rfl rfl rfl rfl rfl (fun hg => by obtain ⟨hg0, _⟩ := hg; subst hg0; (try simp only [List.cons_append, List.nil_append, gvl_nil, gvl_t, gvl_f]); exact v_not rfl) ?_
  intro b54 hb54
  refine x_bool rfl rfl rfl (v_or rfl rfl) ?_
  intro b55 hb55
  refine x_val rfl rfl rfl (v_move rfl) ?_
  refine x_if [] rfl rfl rfl rfl rfl (fun hg => by obtain ⟨hg0, _⟩ := hg; subst hg0; (try simp only [List.cons_append, List.nil_append, gvl_nil, gvl_t, gvl_f]); exact v_move rfl) ?_
  refine x_ifb [] rfl rfl rfl rfl rfl (fun hg => by obtain ⟨hg0, _⟩ := hg; subst hg0; (try simp only [List.cons_append, List.nil_append, gvl_nil, gvl_t, gvl_f]); exact v_not rfl) ?_
  intro b58 hb58
  refine x_bool rfl rfl rfl (v_or rfl rfl) ?_
  intro b59 hb59
  refine x_val rfl rfl rfl (v_move rfl) ?_
  refine x_if [] rfl rfl rfl rfl rfl (fun hg => by obtain ⟨hg0, _⟩ := hg; subst hg0; (try simp only [List.cons_append, List.nil_append, gvl_nil, gvl_t, gvl_f]); exact v_move rfl) ?_
  refine x_ifb [] rfl rfl rfl rfl rfl (fun hg => by obtain ⟨hg0, _⟩ := hg; subst hg0; (try simp only [List.cons_append, List.nil_append, gvl_nil, gvl_t, gvl_f]); exact v_not rfl) ?_
  intro b62 hb62
  refine x_bool rfl rfl rfl (v_or rfl rfl) ?_
  intro b63 hb63
  refine x_val rfl rfl rfl (v_move rfl) ?_
  refine x_if [] rfl rfl rfl rfl rfl (fun hg => by obtain ⟨hg0, _⟩ := hg; subst hg0; (try simp only [List.cons_append, List.nil_append, gvl_nil, gvl_t, gvl_f]); exact v_move rfl) ?_
  refine x_ifb [] rfl rfl rfl rfl rfl (fun hg => by obtain ⟨hg0, _⟩ := hg; subst hg0; (try simp only [List.cons_append, List.nil_append, gvl_nil, gvl_t, gvl_f]); exact v_not rfl) ?_
  intro b66 hb66
  refine x_bool rfl rfl rfl (v_or rfl rfl) ?_
  intro b67 hb67
  refine x_val rfl rfl rfl (v_move rfl) ?_
  refine x_if [] rfl rfl rfl rfl rfl (fun hg => by obtain ⟨hg0, _⟩ := hg; subst hg0; (try simp only [List.cons_append, List.nil_append, gvl_nil, gvl_t, gvl_f]); exact v_move rfl) ?_
  refine x_ifb [] rfl rfl rfl rfl rfl (fun hg => by obtain ⟨hg0, _⟩ := hg; subst hg0; (try simp only [List.cons_append, List.nil_append, gvl_nil, gvl_t, gvl_f]); exact v_not rfl) ?_
  intro b70 hb70
  refine x_bool rfl rfl rfl (v_or rfl rfl) ?_
  intro b71 hb71
  refine x_end ?_
  refine t_norm ?_
  refine w_cond rfl (fun hc71 => ?_) (fun hc71 => ?_)
  · have hno : ¬(((((rrec l 2).2 = true ∧ (atP l 1 1 0).2 = true) ∧ (atP l 3 0 1).2 = true) ∧ (atP l 4 0 1).2 = true) ∧ (atP l 5 0 1).2 = true ∧ wrO (rdR l)) := fun ⟨⟨⟨⟨q1, q2⟩, q3⟩, q4⟩, q5, q6⟩ => by
      rw [hb71, hb70, hb67, hb66, hb63, hb62, hb59, hb58, hb55, hb54, hb51, hb49, hb21, hb26, hb31, hb36, hb41] at hc71
      simp [q1, q2, q3, q4, q5, (writB_iff _).2 q6] at hc71
    refine w_seq ?_
    refine rg_text ?_
    refine x_val rfl rfl rfl (v_buildL (places := [(0, 1), (1, 1), (2, 2), (4, 1), (5, 1), (6, 1), (7, 1), (8, 1)]) Tryz.underlying25 zr25 (by kernel_rfl) rfl rfl) ?_
    refine x_store0 [(p5, Obj.cells [Value.int .i64 (rrec l 2).1.1, .int .i64 (rrec l 2).1.2].toArray 23), (p4, Obj.cells (rdR l).cells.toArray 25)] rfl rfl rfl rfl sz25 rfl rfl ?_
    refine x_val rfl rfl rfl (v_assign rfl) ?_
    refine x_end ?_
    refine t_norm ?_
    refine w_ret ?_
    refine t_ret ?_
    refine retct (cs := zeroO.cells.toArray) rfl rfl rfl (by repeat (first | exact List.Mem.head _ | apply List.Mem.tail)) Tryz.underlying25 rfl sz25 (fun w' hm => ⟨?_, hm.base (by simp)⟩)
    unfold rrO; rw [if_neg (fun h => hno ⟨h.1, h.2.1, h.2.2.1⟩)]
  · have hok : ((((rrec l 2).2 = true ∧ (atP l 1 1 0).2 = true) ∧ (atP l 3 0 1).2 = true) ∧ (atP l 4 0 1).2 = true) ∧ (atP l 5 0 1).2 = true ∧ wrO (rdR l) := by
      rw [hb71, hb70, hb67, hb66, hb63, hb62, hb59, hb58, hb55, hb54, hb51, hb49, hb21, hb26, hb31, hb36, hb41] at hc71
      simp only [Bool.or_eq_false_iff, Bool.not_eq_false'] at hc71
      obtain ⟨⟨⟨⟨⟨q1, q2⟩, q3⟩, q4⟩, q5⟩, q6⟩ := hc71
      exact ⟨⟨⟨⟨q1, q2⟩, q3⟩, q4⟩, q5, (writB_iff _).1 q6⟩
    refine w_skip ?_
    refine t_norm ?_
    refine w_seq ?_
    refine rg_text ?_
    refine x_val rfl rfl rfl (v_load_blk (e := 25) (fz := (0, 0)) (cs := (rdR l).cells.toArray) Tryz.underlying25 rfl rfl (by repeat (first | exact List.Mem.head _ | apply List.Mem.tail)) sz25) ?_
    refine x_call (R := fun v wa wb => sliceRd tySeg (fun b => wa.heap.size ≤ b) wb v (orderR (rdR l))) rfl rfl rfl Tryz.func13 (by kernel_rfl) rfl (fun w1 hw1 => (c_rOrder (rdR l) w1 (rdR_ok l)).mono fun e w2 ⟨v, h1, h2, h3, _⟩ => ⟨_, h1, h2, h3⟩) ?_
    intro v74 wa74 wb74 hm74 hl74 hR74
    refine x_val rfl rfl rfl (v_move rfl) ?_
    refine x_callb rfl rfl rfl Tryz.func12 (by kernel_rfl) rfl (fun w1 hw1 => c_Same (xs := orderR (rdR l)) (ys := l) w1 (keep_new hR74 hw1 (by repeat (first | exact List.Mem.head _ | apply List.Mem.tail)) hm74) (hl.keep (Kept.later (hw1.base (by simp))))) ?_
    intro b76 hb76
    refine x_val rfl rfl rfl (v_assign rfl) ?_
    refine x_end ?_
    refine t_norm ?_
    refine w_seq ?_
    refine w_seq ?_
    refine rg_text ?_
    refine x_val rfl rfl rfl (v_move rfl) ?_
    refine x_bool rfl rfl rfl (v_not rfl) ?_
    intro b78 hb78
    refine x_end ?_
    refine t_norm ?_
    refine w_cond rfl (fun hc78 => ?_) (fun hc78 => ?_)
    · have hno : ¬orderX (rdR l) = l := fun q => by
        have q3 : orderR (rdR l) = orderX (rdR l) := by unfold orderR; rw [if_pos ((writB_iff _).2 hok.2.2), orderP_X (wrO_nn hok.2.2)]
        rw [hb78, hb76, q3, decide_eq_true q] at hc78; cases hc78
      refine w_seq ?_
      refine rg_text ?_
      refine x_val rfl rfl rfl (v_buildL (places := [(0, 1), (1, 1), (2, 2), (4, 1), (5, 1), (6, 1), (7, 1), (8, 1)]) Tryz.underlying25 zr25 (by kernel_rfl) rfl rfl) ?_
      refine x_store0 [(p5, Obj.cells [Value.int .i64 (rrec l 2).1.1, .int .i64 (rrec l 2).1.2].toArray 23), (p4, Obj.cells (rdR l).cells.toArray 25)] rfl rfl rfl rfl sz25 rfl rfl ?_
      refine x_val rfl rfl rfl (v_assign rfl) ?_
      refine x_end ?_
      refine t_norm ?_
      refine w_ret ?_
      refine t_ret ?_
      refine retct (cs := zeroO.cells.toArray) rfl rfl rfl (by repeat (first | exact List.Mem.head _ | apply List.Mem.tail)) Tryz.underlying25 rfl sz25 (fun w' hm => ⟨?_, hm.base (by simp)⟩)
      unfold rrO; rw [if_neg (fun h => hno h.2.2.2)]
    · have hyes : orderX (rdR l) = l := by
        have q3 : orderR (rdR l) = orderX (rdR l) := by unfold orderR; rw [if_pos ((writB_iff _).2 hok.2.2), orderP_X (wrO_nn hok.2.2)]
        rw [hb78, hb76, q3] at hc78
        exact of_decide_eq_true (by simpa using hc78)
      refine w_skip ?_
      refine t_norm ?_
      refine w_seq ?_
      refine rg_text ?_
      refine x_val rfl rfl rfl (v_load_blk (e := 25) (fz := (0, 0)) (cs := (rdR l).cells.toArray) Tryz.underlying25 rfl rfl (by repeat (first | exact List.Mem.head _ | apply List.Mem.tail)) sz25) ?_
      refine x_store0 [(p5, Obj.cells [Value.int .i64 (rrec l 2).1.1, .int .i64 (rrec l 2).1.2].toArray 23), (p4, Obj.cells (rdR l).cells.toArray 25)] rfl rfl rfl rfl sz25 rfl rfl ?_
      refine x_val rfl rfl rfl (v_assign rfl) ?_
      refine x_end ?_
      refine t_norm ?_
      refine w_ret ?_
      refine retct (cs := (rdR l).cells.toArray) rfl rfl rfl (by repeat (first | exact List.Mem.head _ | apply List.Mem.tail)) Tryz.underlying25 rfl sz25 (fun w' hm => ⟨?_, hm.base (by simp)⟩)
      unfold rrO; rw [if_pos ⟨hok.1, hok.2.1, hok.2.2, hyes⟩]

end Go.Proofs.YtbamklefagghcaaGreatDoor

namespace Go.Proofs.YtbamklefagghcaaGreatDoor
open Go.RowKit Go.PK
set_option linter.unusedVariables false
set_option linter.unusedSimpArgs false

theorem eq23 (w : World) (a b a' b' : Int) : (Op.equalIn 9999 23 (.agg #[.int .i64 a, .int .i64 b]) (.agg #[.int .i64 a', .int .i64 b'])).run Tryz.prog w = .ok (decide (a = a' ∧ b = b')) w := by
  have hf : (Tryz.prog.fieldsOf 23).toList = [⟨ "Source", 3, 0, false, "", "", 0⟩, ⟨ "Number", 3, 1, false, "", "", 8⟩] := by kernel_rfl
  rw [run_equalIn_struct w 9998 23 _ _ (by kernel_rfl) (by kernel_rfl), hf]
  simp only [Op.eqFields, part]
  simp [run_isAgg Tryz.underlying3, PK.run_sizeOf sz3, aggT, run_equalIn_int w 9997 3 .i64 .i64 _ _ Tryz.underlying3]
  by_cases h1 : a = a' <;> by_cases h2 : b = b' <;> simp [h1, h2]
theorem eq25 (w : World) (r s : Ord) : (Op.equalIn 10000 25 (.agg r.cells.toArray) (.agg s.cells.toArray)).run Tryz.prog w = .ok (decide (r = s)) w := by
  have hf : (Tryz.prog.fieldsOf 25).toList = [⟨ "Id", 3, 0, false, "", "", 0⟩, ⟨ "Fund", 3, 1, false, "", "", 8⟩, ⟨ "Rec", 23, 2, false, "", "", 16⟩, ⟨ "Copies", 3, 4, false, "", "", 32⟩, ⟨ "Price", 3, 5, false, "", "", 40⟩, ⟨ "Promised", 3, 6, false, "", "", 48⟩, ⟨ "Paid", 3, 7, false, "", "", 56⟩, ⟨ "State", 3, 8, false, "", "", 64⟩] := by kernel_rfl
  rw [run_equalIn_struct w 9999 25 _ _ (by kernel_rfl) (by kernel_rfl), hf]
  simp only [Op.eqFields, part, Ord.cells]
  obtain ⟨r1, r2, r3, r4, r5, r6, r7, r8, r9⟩ := r
  obtain ⟨s1, s2, s3, s4, s5, s6, s7, s8, s9⟩ := s
  simp [run_isAgg Tryz.underlying3, run_isAgg Tryz.underlying23, PK.run_sizeOf sz3, PK.run_sizeOf sz23, aggT, run_equalIn_int w 9998 3 .i64 .i64 _ _ Tryz.underlying3, eq23, Ord.mk.injEq]
  by_cases h1 : r1 = s1 <;> by_cases h2 : r2 = s2 <;> by_cases h3 : r3 = s3 <;> by_cases h4 : r4 = s4 <;> by_cases h5 : r5 = s5 <;> by_cases h6 : r6 = s6 <;> by_cases h7 : r7 = s7 <;> by_cases h8 : r8 = s8 <;> by_cases h9 : r9 = s9 <;> simp [h1, h2, h3, h4, h5, h6, h7, h8, h9]
set_option maxHeartbeats 1000000 in
set_option maxRecDepth 100000 in
theorem d3 (o : Ord) (w : World) (hok : o.okA) (hL : LD w) :
    Calls Tryz.prog 3 #[.agg o.cells.toArray] w fun e w' => e = .returned (.bool (true)) ∧ Later w w' := by
  obtain ⟨⟨hid, hfund, hsrc, hnum, hcopies, hprice⟩, _, _, _⟩ := id hok
  refine enter (vs := [.agg o.cells.toArray]) Tryz.func3 rfl Tryz.ntmps3 rfl ?_
  refine w_seq ?_
  refine rg_text ?_
  refine x_box rfl rfl rfl rfl ?_
  intro p1
  refine x_val rfl rfl rfl (v_assign rfl) ?_
  refine x_end ?_
  refine t_norm ?_
  refine w_seq ?_
  refine rg_text ?_
  refine x_callb rfl rfl rfl Tryz.func9 (by kernel_rfl) rfl (fun w1 hw1 => c_sanity w1 (hL.later (hw1.base (by simp)))) ?_
  intro b11 hb11
  obtain rfl : b11 = true := hb11
  refine x_val rfl rfl rfl (v_assign rfl) ?_
  refine x_end ?_
  refine t_norm ?_
  refine w_seq ?_
  refine rg_text ?_
  refine x_val rfl rfl rfl (v_load_blk (e := 25) (fz := (0, 0)) (cs := (o).cells.toArray) Tryz.underlying25 rfl rfl (by repeat (first | exact List.Mem.head _ | apply List.Mem.tail)) sz25) ?_
  refine x_alloc rfl rfl rfl zr25 ?_
  intro p4
  refine x_store0 [] rfl rfl rfl rfl sz25 rfl rfl ?_
  refine x_end ?_
  refine t_norm ?_
  refine w_seq ?_
  refine rg_inv ([(p1, Obj.cells (o).cells.toArray 25)]) 18 (.flt 0 (.flt 1 (.flt 2 (.flt 3 (.flt 4 (.flt 5 (.flt 6 (.flt 7 (.flt 8 (.flt 9 (.flt 10 (.flt 11 (.flt 12 (.gr 13 (.flt 14 (.gr 15 (.flt 16 (.gr 17 .done .nil)) .nil)) .nil)))))))))))))) (List.sublist_cons_self _ _) (by kernel_rfl) (by kernel_rfl) ?_
  refine j_val rfl rfl (v_fieldAddr (off' := 0) Tryz.underlying25 rfl sz3 (by decide) rfl rfl) ?_
  refine j_val rfl rfl (v_load Tryz.underlying3 rfl rfl (at_ownL (vs := o.cells) (by repeat (first | exact List.Mem.head _ | apply List.Mem.tail)) rfl)) ?_
  refine j_callv rfl rfl Tryz.func10 (by kernel_rfl) rfl (fun w1 hw1 => c_Mod o.id 999999999 w1 hid (by decide)) ?_
  refine j_val rfl rfl (v_addi (c := 1 + o.id % 999999999) rfl rfl rfl (by omega)) ?_
  refine j_val rfl rfl (v_fieldAddr (off' := 1) Tryz.underlying25 rfl sz3 (by decide) rfl rfl) ?_
  refine j_val rfl rfl (v_load Tryz.underlying3 rfl rfl (at_ownL (vs := o.cells) (by repeat (first | exact List.Mem.head _ | apply List.Mem.tail)) rfl)) ?_
  refine j_callv rfl rfl Tryz.func10 (by kernel_rfl) rfl (fun w1 hw1 => c_Mod o.fund 999999999 w1 hfund (by decide)) ?_
  refine j_val rfl rfl (v_addi (c := 1 + o.fund % 999999999) rfl rfl rfl (by omega)) ?_
  refine j_val rfl rfl (v_fieldAddr (off' := 4) Tryz.underlying25 rfl sz3 (by decide) rfl rfl) ?_
  refine j_val rfl rfl (v_load Tryz.underlying3 rfl rfl (at_ownL (vs := o.cells) (by repeat (first | exact List.Mem.head _ | apply List.Mem.tail)) rfl)) ?_
  refine j_callv rfl rfl Tryz.func10 (by kernel_rfl) rfl (fun w1 hw1 => c_Mod o.copies 9999 w1 hcopies (by decide)) ?_
  refine j_val rfl rfl (v_addi (c := 1 + o.copies % 9999) rfl rfl rfl (by omega)) ?_
  refine j_val rfl rfl (v_fieldAddr (off' := 0) Tryz.underlying25 rfl sz3 (by decide) rfl rfl) ?_
  refine j_gr ?_ j_nil
  refine x_store [] rfl rfl rfl rfl sz3 rfl (by show 1 ≤ 9; decide) ?_
  refine x_end ?_
  refine j_end (List.sublist_cons_self _ _) ?_
  refine j_val rfl rfl (v_fieldAddr (off' := 1) Tryz.underlying25 rfl sz3 (by decide) rfl rfl) ?_
  refine j_gr ?_ j_nil
  refine x_store [] rfl rfl rfl rfl sz3 rfl (by show 2 ≤ 9; decide) ?_
  refine x_end ?_
  refine j_end (List.sublist_cons_self _ _) ?_
  refine j_val rfl rfl (v_fieldAddr (off' := 4) Tryz.underlying25 rfl sz3 (by decide) rfl rfl) ?_
  refine j_gr ?_ j_nil
  refine x_store [] rfl rfl rfl rfl sz3 rfl (by show 5 ≤ 9; decide) ?_
  refine x_end ?_
  refine j_end (List.sublist_cons_self _ _) ?_
  refine j_done ?_
  refine x_end ?_
  refine t_norm ?_
  refine w_seq ?_
  refine w_state _ [(p4, Obj.cells ((PK.Ord.mk (1 + o.id % 999999999) (1 + o.fund % 999999999) o.src o.num (1 + o.copies % 9999) o.price o.prom o.paid o.st)).cells.toArray 25), (p1, Obj.cells (o).cells.toArray 25)] _ ?_
  refine rg_draw 10 [(true, 0), (true, 1), (true, 2), (true, 3), (true, 4), (true, 5), (true, 6), (true, 7), (true, 8), (true, 9)] (by kernel_rfl) (by kernel_rfl) ?_
  refine x_val rfl rfl rfl (v_fieldAddr (off' := 2) Tryz.underlying25 rfl sz23 (by decide) rfl rfl) ?_
  refine x_val rfl rfl rfl (v_fieldAddr (off' := 2) Tryz.underlying23 rfl sz3 (by decide) rfl rfl) ?_
  refine x_val rfl rfl rfl (v_load Tryz.underlying3 rfl rfl (at_ownL (vs := o.cells) (by repeat (first | exact List.Mem.head _ | apply List.Mem.tail)) rfl)) ?_
  refine x_callv rfl rfl rfl Tryz.func10 (by kernel_rfl) rfl (fun w1 hw1 => c_Mod o.src 1000000000 w1 hsrc (by decide)) ?_
  refine x_val rfl rfl rfl (v_fieldAddr (off' := 2) Tryz.underlying25 rfl sz23 (by decide) rfl rfl) ?_
  refine x_val rfl rfl rfl (v_fieldAddr (off' := 3) Tryz.underlying23 rfl sz3 (by decide) rfl rfl) ?_
  refine x_val rfl rfl rfl (v_load Tryz.underlying3 rfl rfl (at_ownL (vs := o.cells) (by repeat (first | exact List.Mem.head _ | apply List.Mem.tail)) rfl)) ?_
  refine x_callv rfl rfl rfl Tryz.func10 (by kernel_rfl) rfl (fun w1 hw1 => c_Mod o.num 1000000000 w1 hnum (by decide)) ?_
  refine x_val rfl rfl rfl (v_buildL (places := [(0, 1), (1, 1)]) Tryz.underlying23 zr23 (by kernel_rfl) rfl rfl) ?_
  refine x_val rfl rfl rfl (v_fieldAddr (off' := 2) Tryz.underlying25 rfl sz23 (by decide) rfl rfl) ?_
  refine x_store (cs := (PK.Ord.mk (1 + o.id % 999999999) (1 + o.fund % 999999999) o.src o.num (1 + o.copies % 9999) o.price o.prom o.paid o.st).cells) (off := 2) [] rfl rfl rfl rfl sz23 rfl (by show 4 ≤ 9; decide) ?_
  refine x_end ?_
  refine t_norm ?_
  refine w_seq ?_
  refine rg_text ?_
  refine x_val rfl rfl rfl (v_fieldAddr (off' := 5) Tryz.underlying25 rfl sz3 (by decide) rfl rfl) ?_
  refine x_val rfl rfl rfl (v_load Tryz.underlying3 rfl rfl (at_ownL (vs := o.cells) (by repeat (first | exact List.Mem.head _ | apply List.Mem.tail)) rfl)) ?_
  refine x_callv rfl rfl rfl Tryz.func10 (by kernel_rfl) rfl (fun w1 hw1 => c_Mod o.price 1000000000 w1 hprice (by decide)) ?_
  refine x_val rfl rfl rfl (v_fieldAddr (off' := 5) Tryz.underlying25 rfl sz3 (by decide) rfl rfl) ?_
  refine x_store [] rfl rfl rfl rfl sz3 rfl (by show 6 ≤ 9; decide) ?_
  refine x_end ?_
  refine t_norm ?_
  refine w_seq ?_
  refine w_seq ?_
  refine w_state _ [(p4, Obj.cells (smallO o).cells.toArray 25), (p1, Obj.cells (o).cells.toArray 25)] _ ?_
  refine rg_text ?_
  refine x_val rfl rfl rfl (v_load_blk (e := 25) (fz := (0, 0)) (cs := (o).cells.toArray) Tryz.underlying25 rfl rfl (by repeat (first | exact List.Mem.head _ | apply List.Mem.tail)) sz25) ?_
  refine x_val rfl rfl rfl (v_load_blk (e := 25) (fz := (0, 0)) (cs := (smallO o).cells.toArray) Tryz.underlying25 rfl rfl (by repeat (first | exact List.Mem.head _ | apply List.Mem.tail)) sz25) ?_
  refine x_buildSliceL (cs := o.cells ++ (smallO o).cells) rfl rfl rfl Tryz.underlying28 sz25 zr25 rfl rfl rfl ?_
  intro p44
  refine x_val rfl rfl rfl (v_len_slice Tryz.underlying28 rfl) ?_
  refine x_val rfl rfl rfl (v_move rfl) ?_
  refine x_end ?_
  refine t_norm ?_
  refine w_block ?_
  refine w_loop (σ := Nat) (fun k => k ≤ 2) (fun k => [(3, Value.bool true), (44, Value.slice (some ⟨p44, 0, none⟩) 2 2), (45, Value.int .i64 2), (46, Value.int .i64 (k : Nat))]) (fun k => [(p44, Obj.cells (o.cells ++ (smallO o).cells).toArray 25)]) (fun k => [(w, fun _ => True)]) (fun k => 2 - k) (0) (Nat.zero_le _) (l_start (by repeat (first | exact Sub.nil | refine Sub.cons rfl ?_)) (fun _ h => h.less (List.Sublist.cons_cons _ (List.nil_sublist _)) (fun _ h => h))) ?_
  rintro k hk
  refine w_state ([(3, Value.bool true), (44, Value.slice (some ⟨p44, 0, none⟩) 2 2), (45, Value.int .i64 2), (46, Value.int .i64 (k : Nat))]) ([(p44, Obj.cells (o.cells ++ (smallO o).cells).toArray 25)]) ([(w, fun _ => True)]) ?_
  refine w_seq ?_
  refine rg_text ?_
  refine x_bool rfl rfl rfl (v_lss rfl rfl) ?_
  intro b47 hb47
  refine x_end ?_
  refine t_norm ?_
  refine w_seq ?_
  refine w_cond rfl (fun hc47 => ?_) (fun hc47 => ?_)
  · simp only [hb47, decide_eq_true_eq, decide_eq_false_iff_not, Bool.and_eq_true, Bool.or_eq_true, Bool.and_eq_false_iff, Bool.or_eq_false_iff, Bool.not_eq_true', Bool.not_eq_false', ne_eq, Decidable.not_not] at hc47
    have hk2 : k < 2 := by omega
    obtain ⟨x, hx⟩ : ∃ x, (if k = 0 then o else smallO o) = x := ⟨_, rfl⟩
    have hxo : x.okA := by rw [← hx]; split; (· exact hok); exact small_okA hok
    obtain ⟨hxok, _⟩ := id hxo
    refine w_skip ?_
    refine t_norm ?_
    refine w_seq ?_
    refine w_block ?_
    refine w_seq ?_
    refine rg_text ?_
    refine x_val rfl rfl rfl (v_indexAddr Tryz.underlying28 sz25 rfl rfl (by first | omega | (dsimp only; omega)) rfl) ?_
    refine x_val rfl rfl rfl (v_loadN (vs := x.cells) Tryz.underlying25 rfl sz25 rfl (fun j hj => at_ownL (vs := o.cells ++ (smallO o).cells) (.head _) (by rw [Nat.zero_add]; exact (two_at hk2 hj).trans (by simp only [hx])))) ?_
    refine x_alloc rfl rfl rfl zr25 ?_
    intro p6
    refine x_store0 [] rfl rfl rfl rfl sz25 rfl rfl ?_
    refine x_end ?_
    refine t_norm ?_
    refine w_seq ?_
    refine rg_text ?_
    refine x_val rfl rfl rfl (v_load_blk (e := 25) (fz := (0, 0)) (cs := (x).cells.toArray) Tryz.underlying25 rfl rfl (by repeat (first | exact List.Mem.head _ | apply List.Mem.tail)) sz25) ?_
    refine x_call (R := fun v wa wb => ∃ A1 c1, v = .slice A1 (orderR x).length c1 ∧ sliceRd tySeg (fun b => wa.heap.size ≤ b) wb (.slice A1 (orderR x).length c1) (orderR x) ∧ A1.isNone = decide ((orderR x).length = 0)) rfl rfl rfl Tryz.func11 (by kernel_rfl) rfl (fun w1 hw1 => (c_Order x w1 hxok (hL.later (hw1.base (by simp)))).mono fun e w2 ⟨v, h1, h2, h3, h4⟩ => ord_out h1 h2 h3 h4) ?_
    intro v51 wa51 wb51 hm51 hl51 hR51
    obtain ⟨A1, c1, rfl, hr51, hn51⟩ := hR51
    refine x_val rfl rfl rfl (v_assign rfl) ?_
    refine x_end ?_
    refine t_norm ?_
    refine w_seq ?_
    refine w_seq ?_
    refine rg_text ?_
    refine x_val rfl rfl rfl (v_move rfl) ?_
    refine x_val rfl rfl rfl (v_load_blk (e := 25) (fz := (0, 0)) (cs := (x).cells.toArray) Tryz.underlying25 rfl rfl (by repeat (first | exact List.Mem.head _ | apply List.Mem.tail)) sz25) ?_
    refine x_call (R := fun v wa wb => sliceRd tySeg (fun b => wa.heap.size ≤ b) wb v (orderR x)) rfl rfl rfl Tryz.func13 (by kernel_rfl) rfl (fun w1 hw1 => (c_rOrder x w1 hxok).mono fun e w2 ⟨v, h1, h2, h3, _⟩ => ⟨_, h1, h2, h3⟩) ?_
    intro v54 wa54 wb54 hm54 hl54 hR54
    refine x_callb rfl rfl rfl Tryz.func12 (by kernel_rfl) rfl (fun w1 hw1 => c_Same (xs := orderR x) (ys := orderR x) w1 (keep_new hr51 hw1 (by repeat (first | exact List.Mem.head _ | apply List.Mem.tail)) hm51) (keep_new hR54 hw1 (by repeat (first | exact List.Mem.head _ | apply List.Mem.tail)) hm54)) ?_
    intro b55 hb55
    refine x_bool rfl rfl rfl (v_not rfl) ?_
    intro b56 hb56
    refine x_end ?_
    refine t_norm ?_
    refine w_cond rfl (fun hc56 => ?_) (fun hc56 => ?_)
    · exfalso
      rw [hb56, hb55] at hc56
      simp at hc56
    · simp only [hb56, hb55, decide_eq_true_eq, decide_eq_false_iff_not, Bool.and_eq_true, Bool.or_eq_true, Bool.and_eq_false_iff, Bool.or_eq_false_iff, Bool.not_eq_true', Bool.not_eq_false', ne_eq, Decidable.not_not] at hc56
      refine w_skip ?_
      refine t_norm ?_
      refine w_seq ?_
      refine rg_text ?_
      refine x_val rfl rfl rfl (v_move rfl) ?_
      refine x_callv rfl rfl rfl Tryz.func14 (by kernel_rfl) rfl (fun w1 hw1 => c_ReadOrder w1 (keep_new hr51 hw1 (by repeat (first | exact List.Mem.head _ | apply List.Mem.tail)) hm51) (order_big x) (hL.later (hw1.base (by simp)))) ?_
      refine x_val rfl rfl rfl (v_move rfl) ?_
      refine x_val rfl rfl rfl (v_extract rfl rfl) ?_
      refine x_val rfl rfl rfl (v_extract rfl rfl) ?_
      refine x_alloc rfl rfl rfl zr25 ?_
      intro p8
      refine x_store0 [] rfl rfl rfl rfl sz25 rfl rfl ?_
      refine x_val rfl rfl rfl (v_assign rfl) ?_
      refine x_end ?_
      refine t_norm ?_
      refine w_seq ?_
      refine rg_text ?_
      refine x_val rfl rfl rfl (v_fieldAddr (off' := 0) Tryz.underlying25 rfl sz3 (by decide) rfl rfl) ?_
      refine x_val rfl rfl rfl (v_load Tryz.underlying3 rfl rfl (at_ownL (vs := x.cells) (by repeat (first | exact List.Mem.head _ | apply List.Mem.tail)) rfl)) ?_
      refine x_val rfl rfl rfl (v_fieldAddr (off' := 1) Tryz.underlying25 rfl sz3 (by decide) rfl rfl) ?_
      refine x_val rfl rfl rfl (v_load Tryz.underlying3 rfl rfl (at_ownL (vs := x.cells) (by repeat (first | exact List.Mem.head _ | apply List.Mem.tail)) rfl)) ?_
      refine x_val rfl rfl rfl (v_fieldAddr (off' := 2) Tryz.underlying25 rfl sz23 (by decide) rfl rfl) ?_
      refine x_val rfl rfl rfl (v_loadN (vs := [Value.int .i64 x.src, .int .i64 x.num]) Tryz.underlying23 rfl sz23 rfl (fun j hj => at_ownL (vs := x.cells) (by repeat (first | exact List.Mem.head _ | apply List.Mem.tail)) (by match j, hj with | 0, _ => rfl | 1, _ => rfl))) ?_
      refine x_val rfl rfl rfl (v_fieldAddr (off' := 4) Tryz.underlying25 rfl sz3 (by decide) rfl rfl) ?_
      refine x_val rfl rfl rfl (v_load Tryz.underlying3 rfl rfl (at_ownL (vs := x.cells) (by repeat (first | exact List.Mem.head _ | apply List.Mem.tail)) rfl)) ?_
      refine x_val rfl rfl rfl (v_fieldAddr (off' := 5) Tryz.underlying25 rfl sz3 (by decide) rfl rfl) ?_
      refine x_val rfl rfl rfl (v_load Tryz.underlying3 rfl rfl (at_ownL (vs := x.cells) (by repeat (first | exact List.Mem.head _ | apply List.Mem.tail)) rfl)) ?_
      refine x_val rfl rfl rfl (v_buildL (places := [(0, 1), (1, 1), (2, 2), (4, 1), (5, 1), (6, 1), (7, 1), (8, 1)]) Tryz.underlying25 zr25 (by kernel_rfl) rfl rfl) ?_
      refine x_alloc rfl rfl rfl zr25 ?_
      intro p10
      refine x_store0 [] rfl rfl rfl rfl sz25 rfl rfl ?_
      refine x_end ?_
      refine t_norm ?_
      refine w_seq ?_
      refine rg_text ?_
      refine x_val rfl rfl rfl (v_move rfl) ?_
      refine x_val rfl rfl rfl (v_len_slice Tryz.underlying29 rfl) ?_
      refine x_bool rfl rfl rfl (v_eql rfl rfl) ?_
      intro b75 hb75
      refine x_val rfl rfl rfl (v_move rfl) ?_
      refine x_if [] rfl rfl rfl rfl rfl (fun hg => by obtain ⟨hg0, _⟩ := hg; subst hg0; (try simp only [List.cons_append, List.nil_append, gvl_nil, gvl_t, gvl_f]); exact v_move rfl) ?_
      refine x_ifb [] rfl rfl rfl rfl rfl (fun hg => by obtain ⟨hg0, _⟩ := hg; subst hg0; (try simp only [List.cons_append, List.nil_append, gvl_nil, gvl_t, gvl_f]); exact v_neq rfl rfl) ?_
      intro b78 hb78
      refine x_if [] rfl rfl rfl rfl rfl (fun hg => by obtain ⟨hg0, _⟩ := hg; subst hg0; (try simp only [List.cons_append, List.nil_append, gvl_nil, gvl_t, gvl_f]); exact v_move rfl) ?_
      refine x_if [(b75, true)] rfl rfl rfl rfl rfl (fun hg => by obtain ⟨hg0, hg1, _⟩ := hg; subst hg0; subst hg1; (try simp only [List.cons_append, List.nil_append, gvl_nil, gvl_t, gvl_f]); exact v_load_blk (e := 25) (fz := (0, 0)) (cs := ((rdO (orderR x)).1).cells.toArray) Tryz.underlying25 rfl rfl (by repeat (first | exact List.Mem.head _ | apply List.Mem.tail)) sz25) ?_
      refine x_if [(b75, true)] rfl rfl rfl rfl rfl (fun hg => by obtain ⟨hg0, hg1, _⟩ := hg; subst hg0; subst hg1; (try simp only [List.cons_append, List.nil_append, gvl_nil, gvl_t, gvl_f]); exact v_buildL (places := [(0, 1), (1, 1), (2, 2), (4, 1), (5, 1), (6, 1), (7, 1), (8, 1)]) Tryz.underlying25 zr25 (by kernel_rfl) rfl rfl) ?_
      refine x_ifb [(b75, true)] rfl rfl rfl rfl rfl (fun hg => by obtain ⟨hg0, hg1, _⟩ := hg; subst hg0; subst hg1; (try simp only [List.cons_append, List.nil_append, gvl_nil, gvl_t, gvl_f]); exact v_neA (by kernel_rfl) rfl rfl (fun w1 => eq25 w1 (rdO (orderR x)).1 zeroO)) ?_
      intro b82 hb82
      refine x_ifb [] rfl rfl rfl rfl rfl (fun hg => by obtain ⟨hg0, _⟩ := hg; subst hg0; (try simp only [List.cons_append, List.nil_append, gvl_nil, gvl_t, gvl_f]); exact v_or rfl rfl) ?_
      intro b83 hb83
      refine x_bool rfl rfl rfl (v_and rfl rfl) ?_
      intro b84 hb84
      refine x_val rfl rfl rfl (v_move rfl) ?_
      refine x_if [] rfl rfl rfl rfl rfl (fun hg => by obtain ⟨hg0, _⟩ := hg; subst hg0; (try simp only [List.cons_append, List.nil_append, gvl_nil, gvl_t, gvl_f]); exact v_move rfl) ?_
      refine x_if [] rfl rfl rfl rfl rfl (fun hg => by obtain ⟨hg0, _⟩ := hg; subst hg0; (try simp only [List.cons_append, List.nil_append, gvl_nil, gvl_t, gvl_f]); exact v_len_slice Tryz.underlying29 rfl) ?_
      refine x_ifb [] rfl rfl rfl rfl rfl (fun hg => by obtain ⟨hg0, _⟩ := hg; subst hg0; (try simp only [List.cons_append, List.nil_append, gvl_nil, gvl_t, gvl_f]); exact v_gtr rfl rfl) ?_
      intro b88 hb88
      refine x_if [] rfl rfl rfl rfl rfl (fun hg => by obtain ⟨hg0, _⟩ := hg; subst hg0; (try simp only [List.cons_append, List.nil_append, gvl_nil, gvl_t, gvl_f]); exact v_move rfl) ?_
      refine x_if [(b84, false)] rfl rfl rfl rfl rfl (fun hg => by obtain ⟨hg0, hg1, _⟩ := hg; subst hg0; subst hg1; (try simp only [List.cons_append, List.nil_append, gvl_nil, gvl_t, gvl_f]); exact v_move rfl) ?_
      refine x_ifb [(b84, false)] rfl rfl rfl rfl rfl (fun hg => by obtain ⟨hg0, hg1, _⟩ := hg; subst hg0; subst hg1; (try simp only [List.cons_append, List.nil_append, gvl_nil, gvl_t, gvl_f]); exact v_neq rfl rfl) ?_
      intro b91 hb91
      refine x_if [(b84, false)] rfl rfl rfl rfl rfl (fun hg => by obtain ⟨hg0, hg1, _⟩ := hg; subst hg0; subst hg1; (try simp only [List.cons_append, List.nil_append, gvl_nil, gvl_t, gvl_f]); exact v_move rfl) ?_
      refine x_if [(b84, false), (b88, true)] rfl rfl rfl rfl rfl (fun hg => by obtain ⟨hg0, hg1, hg2, _⟩ := hg; subst hg0; subst hg1; subst hg2; (try simp only [List.cons_append, List.nil_append, gvl_nil, gvl_t, gvl_f]); exact v_load_blk (e := 25) (fz := (0, 0)) (cs := ((rdO (orderR x)).1).cells.toArray) Tryz.underlying25 rfl rfl (by repeat (first | exact List.Mem.head _ | apply List.Mem.tail)) sz25) ?_
      refine x_if [(b84, false), (b88, true)] rfl rfl rfl rfl rfl (fun hg => by obtain ⟨hg0, hg1, hg2, _⟩ := hg; subst hg0; subst hg1; subst hg2; (try simp only [List.cons_append, List.nil_append, gvl_nil, gvl_t, gvl_f]); exact v_load_blk (e := 25) (fz := (0, 0)) (cs := (normO x).cells.toArray) Tryz.underlying25 rfl rfl (by repeat (first | exact List.Mem.head _ | apply List.Mem.tail)) sz25) ?_
      refine x_ifb [(b84, false), (b88, true)] rfl rfl rfl rfl rfl (fun hg => by obtain ⟨hg0, hg1, hg2, _⟩ := hg; subst hg0; subst hg1; subst hg2; (try simp only [List.cons_append, List.nil_append, gvl_nil, gvl_t, gvl_f]); exact v_neA (by kernel_rfl) rfl rfl (fun w1 => eq25 w1 (rdO (orderR x)).1 (normO x))) ?_
      intro b95 hb95
      refine x_ifb [(b84, false)] rfl rfl rfl rfl rfl (fun hg => by obtain ⟨hg0, hg1, _⟩ := hg; subst hg0; subst hg1; (try simp only [List.cons_append, List.nil_append, gvl_nil, gvl_t, gvl_f]); exact v_or rfl rfl) ?_
      intro b96 hb96
      refine x_ifb [] rfl rfl rfl rfl rfl (fun hg => by obtain ⟨hg0, _⟩ := hg; subst hg0; (try simp only [List.cons_append, List.nil_append, gvl_nil, gvl_t, gvl_f]); exact v_and rfl rfl) ?_
      intro b97 hb97
      refine x_bool rfl rfl rfl (v_or rfl rfl) ?_
      intro b98 hb98
      refine x_end ?_
      refine t_norm ?_
      refine w_cond rfl (fun hc98 => ?_) (fun hc98 => ?_)
      · exfalso
        rw [hb98, hb84, hb83, hb82, hb78, hb75, hb97, hb88, hb96, hb95, hb91, rdO_order, orderR_len] at hc98
        by_cases hw : writB x = true <;> simp [hw] at hc98
      · simp only [hb98, hb97, hb96, hb95, hb91, hb88, hb84, hb83, hb82, hb78, hb75, decide_eq_true_eq, decide_eq_false_iff_not, Bool.and_eq_true, Bool.or_eq_true, Bool.and_eq_false_iff, Bool.or_eq_false_iff, Bool.not_eq_true', Bool.not_eq_false', ne_eq, Decidable.not_not] at hc98
        refine w_skip ?_
        refine b_norm ?_
        refine t_norm ?_
        refine rg_text ?_
        refine x_val rfl rfl rfl (v_addi rfl rfl rfl (by first | omega | (dsimp only; omega))) ?_
        refine x_val rfl rfl rfl (v_move rfl) ?_
        refine x_end ?_
        exact l_norm (k + 1) (show k + 1 ≤ 2 by omega) (by omega) (by repeat (first | exact Sub.nil | refine Sub.cons rfl ?_)) (fun w1 h => h.less (by simp) (fun q hq => by simp at hq ⊢; simp [hq]))
  · simp only [hb47, decide_eq_true_eq, decide_eq_false_iff_not, Bool.and_eq_true, Bool.or_eq_true, Bool.and_eq_false_iff, Bool.or_eq_false_iff, Bool.not_eq_true', Bool.not_eq_false', ne_eq, Decidable.not_not] at hc47
    refine w_exit ?_
    refine t_exit ?_
    refine t_exit ?_
    refine b_hit ?_
    refine t_norm ?_
    refine w_seq ?_
    refine rg_text ?_
    refine x_val rfl rfl rfl (v_move rfl) ?_
    refine x_val rfl rfl rfl (v_assign rfl) ?_
    refine x_end ?_
    refine t_norm ?_
    refine w_ret ?_
    refine ret1 rfl rfl (fun w' hm => ⟨?_, hm.base (by simp)⟩)
    rfl

end Go.Proofs.YtbamklefagghcaaGreatDoor

namespace Go.Proofs.YtbamklefagghcaaGreatDoor
open Go.RowKit Go.PK
set_option linter.unusedVariables false
set_option linter.unusedSimpArgs false

def laidL : List (String × DataW Unit) := [("math/bits.deBruijn32tab", Rows.laid_math_bits_deBruijn32tab), ("math/bits.deBruijn64tab", Rows.laid_math_bits_deBruijn64tab), ("internal/strconv.uint64pow10", Rows.laid_internal_strconv_uint64pow10), ("unicode/utf8.acceptRanges", Rows.laid_unicode_utf8_acceptRanges), ("strconv.ErrRange", Rows.laid_strconv_ErrRange), ("strconv.ErrSyntax", Rows.laid_strconv_ErrSyntax), ("unicode/utf8.first", Rows.laid_unicode_utf8_first)]
theorem noHandle {W : World} (h : laidMetH Tryz.prog laidL W) : laidMet Tryz.prog laidL W := by
  have h1 := (laidMetH_iff.1 h).1
  rwa [show (laidL.filter fun x => x.2.handleName?.isNone) = laidL from by kernel_rfl] at h1
theorem laid_tab {W : World} (h : laidMet Tryz.prog laidL W) : Lib.TabIs Tryz.prog W "internal/strconv.uint64pow10" .u64 Lib.pow10Tab := by
  have h1 := h.filter fun x => x.1 == "internal/strconv.uint64pow10"
  have e : (laidL.filter fun x => x.1 == "internal/strconv.uint64pow10") = [("internal/strconv.uint64pow10", Lib.tabData .u64 Lib.pow10Tab)] := by kernel_rfl
  rw [e] at h1
  exact Lib.tabIs_of_head (g := 3) (t := 160) (e := 146) (n := 20) (by kernel_rfl) (by kernel_rfl) (by kernel_rfl) (by kernel_rfl) (by kernel_rfl) (by kernel_rfl) h1
theorem star : "*" ++ "errors.errorString" = "*errors.errorString" := by decide
theorem row104 (u : TypeId) (h : Tryz.prog.typeName? 3 u = some "*errors.errorString") : u = 165 :=
  typeName_ptr_named (nm := "errors.errorString") (by rw [star]; kernel_rfl) (by kernel_rfl) (by decide) u (by rw [star]; exact h)
theorem laid_syn {W : World} (h : laidMet Tryz.prog laidL W) : ∃ tp p, W.var? Tryz.prog "strconv.ErrSyntax" = some #[.iface tp p] := by
  have h1 := h.filter fun x => x.1 == "strconv.ErrSyntax"
  have e : (laidL.filter fun x => x.1 == "strconv.ErrSyntax") = [("strconv.ErrSyntax", .iface "*errors.errorString" (.ptr (.agg [.lit (.string [105, 110, 118, 97, 108, 105, 100, 32, 115, 121, 110, 116, 97, 120])])))] := by kernel_rfl
  rw [e] at h1
  obtain ⟨a0, s0, hv0, _⟩ := laid_sentinel (g := 0) (ti := 84) (tp := 165) (te := 167) (ts := 9) h1 (by kernel_rfl) (by kernel_rfl) Tryz.underlying84 row104 Tryz.underlying165 Tryz.underlying167 rfl rfl Tryz.underlying9 (by kernel_rfl) (by kernel_rfl)
  exact ⟨_, _, hv0⟩
theorem laid_rng {W : World} (h : laidMet Tryz.prog laidL W) : ∃ tp p, W.var? Tryz.prog "strconv.ErrRange" = some #[.iface tp p] := by
  have h1 := h.filter fun x => x.1 == "strconv.ErrRange"
  have e : (laidL.filter fun x => x.1 == "strconv.ErrRange") = [("strconv.ErrRange", .iface "*errors.errorString" (.ptr (.agg [.lit (.string [118, 97, 108, 117, 101, 32, 111, 117, 116, 32, 111, 102, 32, 114, 97, 110, 103, 101])])))] := by kernel_rfl
  rw [e] at h1
  obtain ⟨a0, s0, hv0, _⟩ := laid_sentinel (g := 1) (ti := 84) (tp := 165) (te := 167) (ts := 9) h1 (by kernel_rfl) (by kernel_rfl) Tryz.underlying84 row104 Tryz.underlying165 Tryz.underlying167 rfl rfl Tryz.underlying9 (by kernel_rfl) (by kernel_rfl)
  exact ⟨_, _, hv0⟩

theorem ld_of {W : World} (h : laidMetH Tryz.prog laidL W) (hS : W.ShapedOpen Tryz.prog) : LD W := ⟨laid_tab (noHandle h), Tryz.laysM146.s1_3 W hS, laid_syn (noHandle h), laid_rng (noHandle h)⟩
theorem laid_met (os : Os) (args : Array Value) : laidMet Tryz.prog laidL ((World.laidAll Tryz.prog os laidL).forCall (fun _ _ => 0) ⟨#[], args, []⟩).memory :=
  laidMet_laidAll args (by kernel_rfl) (by kernel_rfl)
theorem bulk_one {H : Type} (d : DataW H) : 1 ≤ Rows.uptoBulk d := by
  cases d with
  | lit l => cases l <;> simp [Rows.uptoBulk]
  | nil => simp [Rows.uptoBulk]
  | ptr d => simp [Rows.uptoBulk]
  | slice elems spare => simp [Rows.uptoBulk]
  | agg parts => simp [Rows.uptoBulk]
  | iface t d => simp [Rows.uptoBulk]
  | map entries => simp [Rows.uptoBulk]
  | held h => simp [Rows.uptoBulk]
def meas (H : Type) : Meas H := ⟨Rows.uptoBulk, Rows.uptoBulkAll, fun _ => by simp [Rows.uptoBulk], fun _ _ => by simp [Rows.uptoBulk], fun _ => by simp [Rows.uptoBulk], fun _ _ => by simp [Rows.uptoBulkAll], bulk_one⟩

end Go.Proofs.YtbamklefagghcaaGreatDoor

namespace Go.Proofs.YtbamklefagghcaaGreatDoor
open Go.RowKit Go.PK
set_option linter.unusedVariables false
set_option linter.unusedSimpArgs false
set_option maxRecDepth 100000 in
theorem rdr_ord : Rdr Tryz.prog 25 tyOrd :=
  rdr_conv (U := tyOrdU) rfl ord_conv (rdr_struct Tryz.underlying25 (by kernel_rfl) (by decide) (.cons rfl (rdr_i Tryz.underlying3 (by kernel_rfl)) (.cons rfl (rdr_i Tryz.underlying3 (by kernel_rfl)) (.cons rfl (rdr_struct Tryz.underlying23 (by kernel_rfl) (by decide) (.cons rfl (rdr_i Tryz.underlying3 (by kernel_rfl)) (.cons rfl (rdr_i Tryz.underlying3 (by kernel_rfl)) (.nil _)))) (.cons rfl (rdr_i Tryz.underlying3 (by kernel_rfl)) (.cons rfl (rdr_i Tryz.underlying3 (by kernel_rfl)) (.cons rfl (rdr_i Tryz.underlying3 (by kernel_rfl)) (.cons rfl (rdr_i Tryz.underlying3 (by kernel_rfl)) (.cons rfl (rdr_i Tryz.underlying3 (by kernel_rfl)) (.nil _))))))))))
set_option maxRecDepth 100000 in
theorem top_ord {H : Type} {enc : TypeId × Value → H} {W : World} {base b0 : Nat} {sp : Nat → Bool} {held : Bool} {r : Reach} {v : Value} {d : DataW H} {ps : List MemPlace} (hval : Value.okWide Tryz.prog W r b0 25 v) (h : DataW.Trod enc Tryz.prog W base sp held 25 v d ps) : ∃ o : PK.Ord, v = .agg o.cells.toArray ∧ o.okA := by
  obtain ⟨cs, o, rfl, h1, h2⟩ := top_agg Tryz.underlying25 rfl rdr_ord hval h
  refine ⟨o, ?_, h2⟩
  rw [← h1]

end Go.Proofs.YtbamklefagghcaaGreatDoor
