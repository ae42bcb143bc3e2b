/- Of the proofs of YtbamklefagghcaaGreatDoor: Xj Xk Xo Xp Xq Xx Xy, put together. -/
import Derived.Test.YtbamklefagghcaaGreatDoorB6
import Derived.Test.YtbamklefagghcaaGreatDoorB2
import Derived.Test.YtbamklefagghcaaGreatDoorB5
import Derived.Lay
import Derived.LaidSub
import Derived.Lib.LaidTab
import Derived.Stop.LaidErr
import Derived.Deep.DeepHandedRow
import Derived.SevenTiedAt
import Derived.Test.YtbamklefagghcaaGreatDoorB1
import Derived.Test.YtbamklefagghcaaGreatDoorB3
import Derived.Test.YtbamklefagghcaaGreatDoorB4
namespace Go.Proofs.YtbamklefagghcaaGreatDoor
open Go.RowKit Go.PK
set_option linter.unusedVariables false
set_option linter.unusedSimpArgs false
set_option maxHeartbeats 2000000 in
set_option maxRecDepth 100000 in
theorem c_withTotal {v : Value} {ls : List PK.Ord} {D : Nat → Prop} (w : World) (hls : sliceRd tyOrd D w v ls) (n : Int) (hw : ∀ o ∈ ls, wrO (pf o)) (hn : ls.length ≤ 1000) (h0 : 0 ≤ n) (hi : in64 n) (hL : LD w) :
    Calls Tryz.prog 44 #[v, .string (itoaS n)] w fun e w' => ∃ q, e = .returned q ∧ Later w w' ∧ sliceRd tySeg (fun b => w.heap.size ≤ b) w' q (withX ls (itoaS n)) := by
  obtain ⟨A, cp, rfl, hlc, hmx, _⟩ := id hls
  refine enter (vs := [Value.slice A ls.length cp, .string (itoaS n)]) Tryz.func44 rfl Tryz.ntmps44 rfl ?_
  refine w_seq ?_
  refine rg_text ?_
  refine x_val rfl rfl rfl (v_assign rfl) ?_
  refine x_end ?_
  refine t_norm ?_
  refine w_seq ?_
  refine rg_text ?_
  refine x_buildSliceL (cs := [Value.string (⟨#[49]⟩), Value.string (⟨#[73, 78, 86, 79, 73, 67, 58, 68, 58, 57, 54, 65, 58, 85, 78]⟩)]) rfl rfl rfl Tryz.underlying54 sz9 zr9 rfl rfl rfl ?_
  intro p8
  refine x_call (R := fun v wa wb => ∃ A c, v = .agg #[.string ⟨#[85, 78, 72]⟩, .slice A 2 c] ∧ sliceRd (tySlice tyStr) (fun b => wa.heap.size ≤ b) wb (.slice A 2 c) [[⟨#[49]⟩], [⟨#[73, 78, 86, 79, 73, 67]⟩, ⟨#[68]⟩, ⟨#[57, 54, 65]⟩, ⟨#[85, 78]⟩]]) rfl rfl rfl Tryz.func31 (by kernel_rfl) rfl (fun w1 hw1 => (c_segment (es := [⟨#[49]⟩, ⟨#[73, 78, 86, 79, 73, 67, 58, 68, 58, 57, 54, 65, 58, 85, 78]⟩]) (D := fun _ => True) ⟨#[85, 78, 72]⟩ w1 (rowS_rd (e := 9) (r := some (p8, [Value.string (⟨#[49]⟩), Value.string (⟨#[73, 78, 86, 79, 73, 67, 58, 68, 58, 57, 54, 65, 58, 85, 78]⟩)], 2)) (n := 2) (rowOK_lit rfl (by decide)) rfl (fun s hs => ok_of (es_unh.2 s hs)) hw1 (fun q hq => by rw [List.mem_singleton.1 hq]; exact (by repeat (first | exact List.Mem.head _ | apply List.Mem.tail))) (fun _ _ => trivial)) (fun s hs => Nat.le_trans (es_unh.2 s hs) (by decide)) (by show 2 ≤ 1000; decide) (hL.later (hw1.base (by simp)))).mono fun e w2 ⟨u, h1, h2, h3⟩ => seg_out h1 h2 (es_unh.1 ▸ h3)) ?_
  intro v9 wa9 wb9 hm9 hl9 hR9
  obtain ⟨A9, c9, rfl, hs9⟩ := hR9
  refine x_buildSliceL (cs := [Value.string (⟨#[51, 56, 48]⟩)]) rfl rfl rfl Tryz.underlying54 sz9 zr9 rfl rfl rfl ?_
  intro p10
  refine x_call (R := fun v wa wb => ∃ A c, v = .agg #[.string ⟨#[66, 71, 77]⟩, .slice A 1 c] ∧ sliceRd (tySlice tyStr) (fun b => wa.heap.size ≤ b) wb (.slice A 1 c) [[⟨#[51, 56, 48]⟩]]) rfl rfl rfl Tryz.func31 (by kernel_rfl) rfl (fun w1 hw1 => (c_segment (es := [⟨#[51, 56, 48]⟩]) (D := fun _ => True) ⟨#[66, 71, 77]⟩ w1 (rowS_rd (e := 9) (r := some (p10, [Value.string (⟨#[51, 56, 48]⟩)], 1)) (n := 1) (rowOK_lit rfl (by decide)) rfl (fun s hs => ok_of (es_bgm.2 s hs)) hw1 (fun q hq => by rw [List.mem_singleton.1 hq]; exact (by repeat (first | exact List.Mem.head _ | apply List.Mem.tail))) (fun _ _ => trivial)) (fun s hs => Nat.le_trans (es_bgm.2 s hs) (by decide)) (by show 1 ≤ 1000; decide) (hL.later (hw1.base (by simp)))).mono fun e w2 ⟨u, h1, h2, h3⟩ => seg_out h1 h2 (es_bgm.1 ▸ h3)) ?_
  intro v11 wa11 wb11 hm11 hl11 hR11
  obtain ⟨A11, c11, rfl, hs11⟩ := hR11
  refine x_buildSliceL (cs := ([[Value.string ⟨#[85, 78, 72]⟩, .slice A9 2 c9], [Value.string ⟨#[66, 71, 77]⟩, .slice A11 1 c11]] : List (List Value)).flatten) rfl rfl rfl Tryz.underlying29 sz49 zr49 rfl rfl rfl ?_
  intro p12
  refine x_val rfl rfl rfl (v_assign rfl) ?_
  refine x_end ?_
  refine t_norm ?_
  refine w_seq ?_
  refine w_seq ?_
  refine rg_text ?_
  refine x_val rfl rfl rfl (v_move rfl) ?_
  refine x_val rfl rfl rfl (v_len_slice Tryz.underlying28 rfl) ?_
  refine x_val rfl rfl rfl (v_move rfl) ?_
  refine x_end ?_
  refine t_norm ?_
  refine w_block ?_
  refine w_fix (rowO 49 (some (p12, ([[Value.string ⟨#[85, 78, 72]⟩, .slice A9 2 c9], [Value.string ⟨#[66, 71, 77]⟩, .slice A11 1 c11]] : List (List Value)).flatten, 2))) (List.Sublist.cons_cons _ (List.nil_sublist _)) (fun w0 hm0 => ?_)
  have hmB := hm0.less (own' := rowO 49 (some (p12, ([[Value.string ⟨#[85, 78, 72]⟩, .slice A9 2 c9], [Value.string ⟨#[66, 71, 77]⟩, .slice A11 1 c11]] : List (List Value)).flatten, 2))) (List.Sublist.cons_cons _ (List.nil_sublist _)) (fun _ h => h)
  have hT0 : RowT tySeg (newD w (rowO 49 (some (p12, ([[Value.string ⟨#[85, 78, 72]⟩, .slice A9 2 c9], [Value.string ⟨#[66, 71, 77]⟩, .slice A11 1 c11]] : List (List Value)).flatten, 2)))) w0 (some (p12, ([[Value.string ⟨#[85, 78, 72]⟩, .slice A9 2 c9], [Value.string ⟨#[66, 71, 77]⟩, .slice A11 1 c11]] : List (List Value)).flatten, 2)) (headX ++ linesX 0 (ls.take 0)) := snocM (T := tySeg) (xs := []) (css := []) (css' := [[Value.string ⟨#[85, 78, 72]⟩, .slice A9 2 c9], [Value.string ⟨#[66, 71, 77]⟩, .slice A11 1 c11]]) (m := 2) (n := 0) rfl rfl (fun j h => absurd h (Nat.not_lt_zero _)) (rowOK_lit rfl (by decide)) rfl (.cons (tySeg_mk (x := ⟨⟨#[85, 78, 72]⟩, [[⟨#[49]⟩], [⟨#[73, 78, 86, 79, 73, 67]⟩, ⟨#[68]⟩, ⟨#[57, 54, 65]⟩, ⟨#[85, 78]⟩]]⟩) rfl (show (3 : Nat) ≤ 9223372036854775807 by decide) (hs9.keep (Kept.made hmB (by first | repeat (first | exact List.Mem.head _ | apply List.Mem.tail) | simp) hm9 (hm9.base (by simp)).size))) (.cons (tySeg_mk (x := ⟨⟨#[66, 71, 77]⟩, [[⟨#[51, 56, 48]⟩]]⟩) rfl (show (3 : Nat) ≤ 9223372036854775807 by decide) (hs11.keep (Kept.made hmB (by first | repeat (first | exact List.Mem.head _ | apply List.Mem.tail) | simp) hm11 (hm11.base (by simp)).size))) .nil))
  refine w_loop (σ := Nat × RowS × World) (fun x => x.1 ≤ ls.length ∧ RowT tySeg (newD w (rowO 49 x.2.1)) x.2.2 x.2.1 (headX ++ linesX 0 (ls.take x.1))) (fun x => [(1, Value.string (itoaS n)), (0, Value.slice A ls.length cp), (13, Value.slice A ls.length cp), (14, Value.int .i64 (ls.length : Nat)), (5, rowV x.2.1 (2 + 4 * x.1)), (15, Value.int .i64 (x.1 : Nat))]) (fun x => rowO 49 x.2.1) (fun x => (x.2.2, notOwn (rowO 49 x.2.1)) :: [(w, fun _ => True)]) (fun x => ls.length - x.1) ((0, (some (p12, ([[Value.string ⟨#[85, 78, 72]⟩, .slice A9 2 c9], [Value.string ⟨#[66, 71, 77]⟩, .slice A11 1 c11]] : List (List Value)).flatten, 2)), w0)) (⟨Nat.zero_le _, hT0⟩) (l_start (by repeat (first | exact Sub.nil | refine Sub.cons rfl ?_)) (fun _ h => h.less (List.Sublist.refl _) (fun q hq => by simp at hq ⊢; rcases hq with h | h; (· exact .inl h); simp [h]))) ?_
  rintro ⟨k, R, ws⟩ ⟨hk, hT⟩
  refine w_state ([(1, Value.string (itoaS n)), (0, Value.slice A ls.length cp), (13, Value.slice A ls.length cp), (14, Value.int .i64 (ls.length : Nat)), (5, rowV R (2 + 4 * k)), (15, Value.int .i64 (k : Nat))]) (rowO 49 R) ((ws, notOwn (rowO 49 R)) :: [(w, fun _ => True)]) ?_
  dsimp only at hk hT
  have hln := hl_len hk
  refine w_seq ?_
  refine rg_text ?_
  refine x_bool rfl rfl rfl (v_lss rfl rfl) ?_
  intro b16 hb16
  refine x_end ?_
  refine t_norm ?_
  refine w_seq ?_
  refine w_cond rfl (fun hc16 => ?_) (fun hc16 => ?_)
  · simp only [hb16, decide_eq_true_eq, decide_eq_false_iff_not, Bool.and_eq_true, Bool.or_eq_true, Bool.and_eq_false_iff, Bool.or_eq_false_iff, Bool.not_eq_true', Bool.not_eq_false', ne_eq, Decidable.not_not] at hc16
    have hkl : k < ls.length := by omega
    obtain ⟨ob, oo, hA, _, hc, hoA⟩ := ord_at hls hkl
    obtain ⟨_, _, ⟨r1, r2⟩, ⟨r3, r4⟩, ⟨r5, r6⟩, ⟨r7, r8⟩, r9, r10⟩ := line_rng (hw ls[k] (List.getElem_mem hkl))
    obtain ⟨⟨i1, _, i3, i4, i5, i6⟩, _⟩ := id hoA
    have ik : in64 ((k + 1 : Nat) : Int) := by unfold in64; omega
    have z1 := itoaS_size i1
    have z5 := itoaS_size i5
    have z6 := itoaS_size i6
    have q27 := es_lin (n := ((k + 1 : Nat) : Int)) (o := ls[k]) (by omega) ik r3 r5 i3 i4
    have q33 := es_p3 (a := 79) (b := 78) r1 i1 (by decide) (by decide)
    have q39 := es_p3 (a := 52) (b := 55) r7 i5 (by decide) (by decide)
    have q45 := es_p4 (a := 65) (b := 65) (d := 65) r9 i6 (by decide) (by decide) (by decide)
    refine w_skip ?_
    refine t_norm ?_
    refine w_seq ?_
    refine w_block ?_
    refine w_seq ?_
    refine rg_text ?_
    refine x_val rfl rfl rfl (v_move rfl) ?_
    refine x_val rfl rfl rfl (v_indexAddr Tryz.underlying28 sz25 (congrArg (fun A => some (Value.slice A ls.length cp)) hA) rfl (hkl) rfl) ?_
    refine x_val rfl rfl rfl (v_loadN (vs := ls[k].cells) Tryz.underlying25 rfl sz25 rfl (fun j hj => at_ro (.tail _ (.head _)) trivial (hc j hj))) ?_
    refine x_alloc rfl rfl rfl zr25 ?_
    intro p7
    refine x_val rfl rfl rfl (v_assign rfl) ?_
    refine x_store0 [] rfl rfl rfl rfl sz25 rfl rfl ?_
    refine x_end ?_
    refine t_norm ?_
    refine rg_draw 28 [(true, 0), (true, 1), (true, 2), (true, 3), (true, 4), (true, 5), (true, 6), (true, 9), (true, 10), (true, 15), (true, 16), (true, 21), (true, 22), (false, 7), (false, 8), (true, 11), (true, 12), (false, 13), (false, 14), (true, 17), (true, 18), (false, 19), (false, 20), (true, 23), (true, 24), (false, 25), (false, 26), (false, 27)] (by kernel_rfl) (by kernel_rfl) ?_
    refine x_val rfl rfl rfl (v_move rfl) ?_
    refine x_val rfl rfl rfl (v_move rfl) ?_
    refine x_val rfl rfl rfl (v_addi (c := ((k + 1 : Nat) : Int)) rfl rfl (by omega) (by omega)) ?_
    refine x_callv rfl rfl rfl Tryz.func32 (by kernel_rfl) rfl (fun w1 hw1 => c_number ((k + 1 : Nat) : Int) w1 ik (hL.later (hw1.base (by simp)))) ?_
    refine x_val rfl rfl rfl (v_fieldAddr (off' := 2) Tryz.underlying25 rfl sz23 (by decide) rfl rfl) ?_
    refine x_val rfl rfl rfl (v_loadN (vs := [Value.int .i64 ls[k].src, .int .i64 ls[k].num]) Tryz.underlying23 rfl sz23 rfl (fun j hj => at_ownL (vs := ls[k].cells) (by repeat (first | exact List.Mem.head _ | apply List.Mem.tail)) (by match j, hj with | 0, _ => rfl | 1, _ => rfl))) ?_
    refine x_callv rfl rfl rfl Tryz.func33 (by kernel_rfl) rfl (fun w1 hw1 => c_article ls[k].src ls[k].num w1 i3 i4 (hL.later (hw1.base (by simp)))) ?_
    refine x_val rfl rfl rfl (v_fieldAddr (off' := 0) Tryz.underlying25 rfl sz3 (by decide) rfl rfl) ?_
    refine x_val rfl rfl rfl (v_load Tryz.underlying3 rfl rfl (at_ownL (vs := ls[k].cells) (by repeat (first | exact List.Mem.head _ | apply List.Mem.tail)) rfl)) ?_
    refine x_val rfl rfl rfl (v_fieldAddr (off' := 4) Tryz.underlying25 rfl sz3 (by decide) rfl rfl) ?_
    refine x_val rfl rfl rfl (v_load Tryz.underlying3 rfl rfl (at_ownL (vs := ls[k].cells) (by repeat (first | exact List.Mem.head _ | apply List.Mem.tail)) rfl)) ?_
    refine x_val rfl rfl rfl (v_fieldAddr (off' := 5) Tryz.underlying25 rfl sz3 (by decide) rfl rfl) ?_
    refine x_val rfl rfl rfl (v_load Tryz.underlying3 rfl rfl (at_ownL (vs := ls[k].cells) (by repeat (first | exact List.Mem.head _ | apply List.Mem.tail)) rfl)) ?_
    refine x_buildSliceL (cs := [Value.string (itoaS ((k + 1 : Nat) : Int)), Value.string (⟨#[]⟩), Value.string (artS ls[k].src ls[k].num)]) rfl rfl rfl Tryz.underlying54 sz9 zr9 rfl rfl rfl ?_
    intro p27
    refine x_call (R := fun v wa wb => ∃ A c, v = .agg #[.string ⟨#[76, 73, 78]⟩, .slice A 3 c] ∧ sliceRd (tySlice tyStr) (fun b => wa.heap.size ≤ b) wb (.slice A 3 c) [[itoaS ((k + 1 : Nat) : Int)], [⟨#[]⟩], [recT ls[k].src ls[k].num, ⟨#[83, 82, 86]⟩]]) rfl rfl rfl Tryz.func31 (by kernel_rfl) rfl (fun w1 hw1 => (c_segment (es := [itoaS ((k + 1 : Nat) : Int), ⟨#[]⟩, artS ls[k].src ls[k].num]) (D := fun _ => True) ⟨#[76, 73, 78]⟩ w1 (rowS_rd (e := 9) (r := some (p27, [Value.string (itoaS ((k + 1 : Nat) : Int)), Value.string (⟨#[]⟩), Value.string (artS ls[k].src ls[k].num)], 3)) (n := 3) (rowOK_lit rfl (by decide)) rfl (fun s hs => ok_of (q27.2 s hs)) hw1 (fun q hq => by rw [List.mem_singleton.1 hq]; exact (by repeat (first | exact List.Mem.head _ | apply List.Mem.tail))) (fun _ _ => trivial)) (fun s hs => Nat.le_trans (q27.2 s hs) (by decide)) (by show 3 ≤ 1000; decide) (hL.later (hw1.base (by simp)))).mono fun e w2 ⟨u, h1, h2, h3⟩ => seg_out h1 h2 (q27.1 ▸ h3)) ?_
    intro v28 wa28 wb28 hm28 hl28 hR28
    obtain ⟨A28, c28, rfl, hs28⟩ := hR28
    refine x_callv rfl rfl rfl Tryz.func32 (by kernel_rfl) rfl (fun w1 hw1 => c_number ls[k].id w1 i1 (hL.later (hw1.base (by simp)))) ?_
    refine x_val rfl rfl rfl (v_sadd rfl rfl (by show 3 + (itoaS _).size ≤ _; omega)) ?_
    refine x_buildSliceL (cs := [Value.string ((⟨#[79, 78, 58]⟩ : ByteArray) ++ itoaS ls[k].id)]) rfl rfl rfl Tryz.underlying54 sz9 zr9 rfl rfl rfl ?_
    intro p33
    refine x_call (R := fun v wa wb => ∃ A c, v = .agg #[.string ⟨#[82, 70, 70]⟩, .slice A 1 c] ∧ sliceRd (tySlice tyStr) (fun b => wa.heap.size ≤ b) wb (.slice A 1 c) [[⟨#[79, 78]⟩, itoaS ls[k].id]]) rfl rfl rfl Tryz.func31 (by kernel_rfl) rfl (fun w1 hw1 => (c_segment (es := [(⟨#[79, 78, 58]⟩ : ByteArray) ++ itoaS ls[k].id]) (D := fun _ => True) ⟨#[82, 70, 70]⟩ w1 (rowS_rd (e := 9) (r := some (p33, [Value.string ((⟨#[79, 78, 58]⟩ : ByteArray) ++ itoaS ls[k].id)], 1)) (n := 1) (rowOK_lit rfl (by decide)) rfl (fun s hs => ok_of (q33.2 s hs)) hw1 (fun q hq => by rw [List.mem_singleton.1 hq]; exact (by repeat (first | exact List.Mem.head _ | apply List.Mem.tail))) (fun _ _ => trivial)) (fun s hs => Nat.le_trans (q33.2 s hs) (by decide)) (by show 1 ≤ 1000; decide) (hL.later (hw1.base (by simp)))).mono fun e w2 ⟨u, h1, h2, h3⟩ => seg_out h1 h2 (q33.1 ▸ h3)) ?_
    intro v34 wa34 wb34 hm34 hl34 hR34
    obtain ⟨A34, c34, rfl, hs34⟩ := hR34
    refine x_callv rfl rfl rfl Tryz.func32 (by kernel_rfl) rfl (fun w1 hw1 => c_number ls[k].copies w1 i5 (hL.later (hw1.base (by simp)))) ?_
    refine x_val rfl rfl rfl (v_sadd rfl rfl (by show 3 + (itoaS _).size ≤ _; omega)) ?_
    refine x_buildSliceL (cs := [Value.string ((⟨#[52, 55, 58]⟩ : ByteArray) ++ itoaS ls[k].copies)]) rfl rfl rfl Tryz.underlying54 sz9 zr9 rfl rfl rfl ?_
    intro p39
    refine x_call (R := fun v wa wb => ∃ A c, v = .agg #[.string ⟨#[81, 84, 89]⟩, .slice A 1 c] ∧ sliceRd (tySlice tyStr) (fun b => wa.heap.size ≤ b) wb (.slice A 1 c) [[⟨#[52, 55]⟩, itoaS ls[k].copies]]) rfl rfl rfl Tryz.func31 (by kernel_rfl) rfl (fun w1 hw1 => (c_segment (es := [(⟨#[52, 55, 58]⟩ : ByteArray) ++ itoaS ls[k].copies]) (D := fun _ => True) ⟨#[81, 84, 89]⟩ w1 (rowS_rd (e := 9) (r := some (p39, [Value.string ((⟨#[52, 55, 58]⟩ : ByteArray) ++ itoaS ls[k].copies)], 1)) (n := 1) (rowOK_lit rfl (by decide)) rfl (fun s hs => ok_of (q39.2 s hs)) hw1 (fun q hq => by rw [List.mem_singleton.1 hq]; exact (by repeat (first | exact List.Mem.head _ | apply List.Mem.tail))) (fun _ _ => trivial)) (fun s hs => Nat.le_trans (q39.2 s hs) (by decide)) (by show 1 ≤ 1000; decide) (hL.later (hw1.base (by simp)))).mono fun e w2 ⟨u, h1, h2, h3⟩ => seg_out h1 h2 (q39.1 ▸ h3)) ?_
    intro v40 wa40 wb40 hm40 hl40 hR40
    obtain ⟨A40, c40, rfl, hs40⟩ := hR40
    refine x_callv rfl rfl rfl Tryz.func32 (by kernel_rfl) rfl (fun w1 hw1 => c_number ls[k].price w1 i6 (hL.later (hw1.base (by simp)))) ?_
    refine x_val rfl rfl rfl (v_sadd rfl rfl (by show 4 + (itoaS _).size ≤ _; omega)) ?_
    refine x_buildSliceL (cs := [Value.string ((⟨#[65, 65, 65, 58]⟩ : ByteArray) ++ itoaS ls[k].price)]) rfl rfl rfl Tryz.underlying54 sz9 zr9 rfl rfl rfl ?_
    intro p45
    refine x_call (R := fun v wa wb => ∃ A c, v = .agg #[.string ⟨#[80, 82, 73]⟩, .slice A 1 c] ∧ sliceRd (tySlice tyStr) (fun b => wa.heap.size ≤ b) wb (.slice A 1 c) [[⟨#[65, 65, 65]⟩, itoaS ls[k].price]]) rfl rfl rfl Tryz.func31 (by kernel_rfl) rfl (fun w1 hw1 => (c_segment (es := [(⟨#[65, 65, 65, 58]⟩ : ByteArray) ++ itoaS ls[k].price]) (D := fun _ => True) ⟨#[80, 82, 73]⟩ w1 (rowS_rd (e := 9) (r := some (p45, [Value.string ((⟨#[65, 65, 65, 58]⟩ : ByteArray) ++ itoaS ls[k].price)], 1)) (n := 1) (rowOK_lit rfl (by decide)) rfl (fun s hs => ok_of (q45.2 s hs)) hw1 (fun q hq => by rw [List.mem_singleton.1 hq]; exact (by repeat (first | exact List.Mem.head _ | apply List.Mem.tail))) (fun _ _ => trivial)) (fun s hs => Nat.le_trans (q45.2 s hs) (by decide)) (by show 1 ≤ 1000; decide) (hL.later (hw1.base (by simp)))).mono fun e w2 ⟨u, h1, h2, h3⟩ => seg_out h1 h2 (q45.1 ▸ h3)) ?_
    intro v46 wa46 wb46 hm46 hl46 hR46
    obtain ⟨A46, c46, rfl, hs46⟩ := hR46
    refine x_buildSliceL (cs := ([[Value.string ⟨#[76, 73, 78]⟩, .slice A28 3 c28], [Value.string ⟨#[82, 70, 70]⟩, .slice A34 1 c34], [Value.string ⟨#[81, 84, 89]⟩, .slice A40 1 c40], [Value.string ⟨#[80, 82, 73]⟩, .slice A46 1 c46]] : List (List Value)).flatten) rfl rfl rfl Tryz.underlying29 sz49 zr49 rfl rfl rfl ?_
    intro p47
    obtain ⟨css, hcl, hrow, hrd⟩ := hT
    rw [hln] at hcl hrow
    refine x_append (e := 49) [(p47, Obj.cells ([[Value.string ⟨#[76, 73, 78]⟩, .slice A28 3 c28], [Value.string ⟨#[82, 70, 70]⟩, .slice A34 1 c34], [Value.string ⟨#[81, 84, 89]⟩, .slice A40 1 c40], [Value.string ⟨#[80, 82, 73]⟩, .slice A46 1 c46]] : List (List Value)).flatten.toArray 49), (p45, Obj.cells [Value.string ((⟨#[65, 65, 65, 58]⟩ : ByteArray) ++ itoaS ls[k].price)].toArray 9), (p39, Obj.cells [Value.string ((⟨#[52, 55, 58]⟩ : ByteArray) ++ itoaS ls[k].copies)].toArray 9), (p33, Obj.cells [Value.string ((⟨#[79, 78, 58]⟩ : ByteArray) ++ itoaS ls[k].id)].toArray 9), (p27, Obj.cells [Value.string (itoaS ((k + 1 : Nat) : Int)), Value.string (⟨#[]⟩), Value.string (artS ls[k].src ls[k].num)].toArray 9), (p7, Obj.cells ls[k].cells.toArray 25)] (l2 := []) R (len := 2 + 4 * k) (xs := css.flatten) rfl rfl rfl rfl (by rw [List.append_nil]; rfl) hrow Tryz.underlying29 ap49 rfl rfl (m := 4) (news := ([[Value.string ⟨#[76, 73, 78]⟩, .slice A28 3 c28], [Value.string ⟨#[82, 70, 70]⟩, .slice A34 1 c34], [Value.string ⟨#[81, 84, 89]⟩, .slice A40 1 c40], [Value.string ⟨#[80, 82, 73]⟩, .slice A46 1 c46]] : List (List Value)).flatten) (fun i hi => at_ownL (vs := ([[Value.string ⟨#[76, 73, 78]⟩, .slice A28 3 c28], [Value.string ⟨#[82, 70, 70]⟩, .slice A34 1 c34], [Value.string ⟨#[81, 84, 89]⟩, .slice A40 1 c40], [Value.string ⟨#[80, 82, 73]⟩, .slice A46 1 c46]] : List (List Value)).flatten) (.head _) (by rw [Nat.zero_add]; exact List.getElem?_eq_getElem hi)) rfl (by simp only [maxLen]; omega) (by omega) ?_
    intro R' hR'
    refine x_val rfl rfl rfl (v_assign rfl) ?_
    refine x_end ?_
    refine b_norm ?_
    refine t_norm ?_
    refine rg_text ?_
    refine x_val rfl rfl rfl (v_addi rfl rfl rfl (by first | omega | (dsimp only; omega))) ?_
    refine x_val rfl rfl rfl (v_move rfl) ?_
    refine x_end ?_
    rw [List.append_nil]
    have hsub : (rowO 49 R').Sublist ([(p47, Obj.cells ([[Value.string ⟨#[76, 73, 78]⟩, .slice A28 3 c28], [Value.string ⟨#[82, 70, 70]⟩, .slice A34 1 c34], [Value.string ⟨#[81, 84, 89]⟩, .slice A40 1 c40], [Value.string ⟨#[80, 82, 73]⟩, .slice A46 1 c46]] : List (List Value)).flatten.toArray 49), (p45, Obj.cells [Value.string ((⟨#[65, 65, 65, 58]⟩ : ByteArray) ++ itoaS ls[k].price)].toArray 9), (p39, Obj.cells [Value.string ((⟨#[52, 55, 58]⟩ : ByteArray) ++ itoaS ls[k].copies)].toArray 9), (p33, Obj.cells [Value.string ((⟨#[79, 78, 58]⟩ : ByteArray) ++ itoaS ls[k].id)].toArray 9), (p27, Obj.cells [Value.string (itoaS ((k + 1 : Nat) : Int)), Value.string (⟨#[]⟩), Value.string (artS ls[k].src ls[k].num)].toArray 9), (p7, Obj.cells ls[k].cells.toArray 25)] ++ rowO 49 R') := List.sublist_append_right _ _
    refine s_fix (rowO 49 R') hsub (fun w0 hm0 => ?_)
    have hmB := hm0.less hsub (fun _ h => h)
    have hT' := snocM (T := tySeg) (D := newD w (rowO 49 R')) (ws := w0) (ys := inv4 k ls[k]) hln hcl (fun j h1 h2 => tySeg.keep (hrd j h1 h2) (Kept.frz hm0 hsub (by simp))) hR' rfl (.cons (tySeg_mk (x := ⟨⟨#[76, 73, 78]⟩, [[itoaS ((k + 1 : Nat) : Int)], [⟨#[]⟩], [recT ls[k].src ls[k].num, ⟨#[83, 82, 86]⟩]]⟩) rfl (show (3 : Nat) ≤ 9223372036854775807 by decide) (hs28.keep (Kept.made hmB (by first | repeat (first | exact List.Mem.head _ | apply List.Mem.tail) | simp) hm28 (hm28.base (by simp)).size))) (.cons (tySeg_mk (x := ⟨⟨#[82, 70, 70]⟩, [[⟨#[79, 78]⟩, itoaS ls[k].id]]⟩) rfl (show (3 : Nat) ≤ 9223372036854775807 by decide) (hs34.keep (Kept.made hmB (by first | repeat (first | exact List.Mem.head _ | apply List.Mem.tail) | simp) hm34 (hm34.base (by simp)).size))) (.cons (tySeg_mk (x := ⟨⟨#[81, 84, 89]⟩, [[⟨#[52, 55]⟩, itoaS ls[k].copies]]⟩) rfl (show (3 : Nat) ≤ 9223372036854775807 by decide) (hs40.keep (Kept.made hmB (by first | repeat (first | exact List.Mem.head _ | apply List.Mem.tail) | simp) hm40 (hm40.base (by simp)).size))) (.cons (tySeg_mk (x := ⟨⟨#[80, 82, 73]⟩, [[⟨#[65, 65, 65]⟩, itoaS ls[k].price]]⟩) rfl (show (3 : Nat) ≤ 9223372036854775807 by decide) (hs46.keep (Kept.made hmB (by first | repeat (first | exact List.Mem.head _ | apply List.Mem.tail) | simp) hm46 (hm46.base (by simp)).size))) .nil))))
    exact l_norm (x := (k, R, ws)) (μ := fun q : Nat × RowS × World => ls.length - q.1) (k + 1, R', w0) ⟨by dsimp only; omega, by dsimp only; rw [linesX_take hkl]; exact hT'⟩ (by simp only; omega) (by dsimp only; rw [show 2 + 4 * (k + 1) = 2 + 4 * k + 4 by omega]; repeat (first | exact Sub.nil | refine Sub.cons rfl ?_)) (fun w1 h => h.less (List.Sublist.refl _) (fun q hq => by simp at hq ⊢; rcases hq with h | h; (· exact .inl h); simp [h]))
  · simp only [hb16, decide_eq_true_eq, decide_eq_false_iff_not, Bool.and_eq_true, Bool.or_eq_true, Bool.and_eq_false_iff, Bool.or_eq_false_iff, Bool.not_eq_true', Bool.not_eq_false', ne_eq, Decidable.not_not] at hc16
    obtain rfl : k = ls.length := by omega
    rw [List.take_length] at hT hln
    have q55 := es_p3 (a := 56) (b := 54) h0 hi (by decide) (by decide)
    have i61 : in64 ((4 * ls.length + 5 : Nat) : Int) := by unfold in64; omega
    have q61 := es_unt (n := ((4 * ls.length + 5 : Nat) : Int)) (by omega) i61
    refine w_exit ?_
    refine t_exit ?_
    refine t_exit ?_
    refine b_hit ?_
    refine t_norm ?_
    refine w_seq ?_
    refine rg_text ?_
    refine x_val rfl rfl rfl (v_move rfl) ?_
    refine x_buildSliceL (cs := [Value.string (⟨#[83]⟩)]) rfl rfl rfl Tryz.underlying54 sz9 zr9 rfl rfl rfl ?_
    intro p51
    refine x_call (R := fun v wa wb => ∃ A c, v = .agg #[.string ⟨#[85, 78, 83]⟩, .slice A 1 c] ∧ sliceRd (tySlice tyStr) (fun b => wa.heap.size ≤ b) wb (.slice A 1 c) [[⟨#[83]⟩]]) rfl rfl rfl Tryz.func31 (by kernel_rfl) rfl (fun w1 hw1 => (c_segment (es := [⟨#[83]⟩]) (D := fun _ => True) ⟨#[85, 78, 83]⟩ w1 (rowS_rd (e := 9) (r := some (p51, [Value.string (⟨#[83]⟩)], 1)) (n := 1) (rowOK_lit rfl (by decide)) rfl (fun s hs => ok_of (es_uns.2 s hs)) hw1 (fun q hq => by rw [List.mem_singleton.1 hq]; exact (by repeat (first | exact List.Mem.head _ | apply List.Mem.tail))) (fun _ _ => trivial)) (fun s hs => Nat.le_trans (es_uns.2 s hs) (by decide)) (by show 1 ≤ 1000; decide) (hL.later (hw1.base (by simp)))).mono fun e w2 ⟨u, h1, h2, h3⟩ => seg_out h1 h2 (es_uns.1 ▸ h3)) ?_
    intro v52 wa52 wb52 hm52 hl52 hR52
    obtain ⟨A52, c52, rfl, hs52⟩ := hR52
    refine x_val rfl rfl rfl (v_move rfl) ?_
    refine x_val rfl rfl rfl (v_sadd rfl rfl (by have := itoaS_size hi; show 3 + (itoaS _).size ≤ _; omega)) ?_
    refine x_buildSliceL (cs := [Value.string ((⟨#[56, 54, 58]⟩ : ByteArray) ++ itoaS n)]) rfl rfl rfl Tryz.underlying54 sz9 zr9 rfl rfl rfl ?_
    intro p55
    refine x_call (R := fun v wa wb => ∃ A c, v = .agg #[.string ⟨#[77, 79, 65]⟩, .slice A 1 c] ∧ sliceRd (tySlice tyStr) (fun b => wa.heap.size ≤ b) wb (.slice A 1 c) [[⟨#[56, 54]⟩, itoaS n]]) rfl rfl rfl Tryz.func31 (by kernel_rfl) rfl (fun w1 hw1 => (c_segment (es := [(⟨#[56, 54, 58]⟩ : ByteArray) ++ itoaS n]) (D := fun _ => True) ⟨#[77, 79, 65]⟩ w1 (rowS_rd (e := 9) (r := some (p55, [Value.string ((⟨#[56, 54, 58]⟩ : ByteArray) ++ itoaS n)], 1)) (n := 1) (rowOK_lit rfl (by decide)) rfl (fun s hs => ok_of (q55.2 s hs)) hw1 (fun q hq => by rw [List.mem_singleton.1 hq]; exact (by repeat (first | exact List.Mem.head _ | apply List.Mem.tail))) (fun _ _ => trivial)) (fun s hs => Nat.le_trans (q55.2 s hs) (by decide)) (by show 1 ≤ 1000; decide) (hL.later (hw1.base (by simp)))).mono fun e w2 ⟨u, h1, h2, h3⟩ => seg_out h1 h2 (q55.1 ▸ h3)) ?_
    intro v56 wa56 wb56 hm56 hl56 hR56
    obtain ⟨A56, c56, rfl, hs56⟩ := hR56
    refine x_val rfl rfl rfl (v_move rfl) ?_
    refine x_val rfl rfl rfl (v_len_slice Tryz.underlying29 rfl) ?_
    refine x_val rfl rfl rfl (v_addi (c := ((4 * ls.length + 5 : Nat) : Int)) rfl rfl (by omega) (by omega)) ?_
    refine x_callv rfl rfl rfl Tryz.func32 (by kernel_rfl) rfl (fun w1 hw1 => c_number ((4 * ls.length + 5 : Nat) : Int) w1 i61 (hL.later (hw1.base (by simp)))) ?_
    refine x_buildSliceL (cs := [Value.string (itoaS ((4 * ls.length + 5 : Nat) : Int)), Value.string (⟨#[49]⟩)]) rfl rfl rfl Tryz.underlying54 sz9 zr9 rfl rfl rfl ?_
    intro p61
    refine x_call (R := fun v wa wb => ∃ A c, v = .agg #[.string ⟨#[85, 78, 84]⟩, .slice A 2 c] ∧ sliceRd (tySlice tyStr) (fun b => wa.heap.size ≤ b) wb (.slice A 2 c) [[itoaS ((4 * ls.length + 5 : Nat) : Int)], [⟨#[49]⟩]]) rfl rfl rfl Tryz.func31 (by kernel_rfl) rfl (fun w1 hw1 => (c_segment (es := [itoaS ((4 * ls.length + 5 : Nat) : Int), ⟨#[49]⟩]) (D := fun _ => True) ⟨#[85, 78, 84]⟩ w1 (rowS_rd (e := 9) (r := some (p61, [Value.string (itoaS ((4 * ls.length + 5 : Nat) : Int)), Value.string (⟨#[49]⟩)], 2)) (n := 2) (rowOK_lit rfl (by decide)) rfl (fun s hs => ok_of (q61.2 s hs)) hw1 (fun q hq => by rw [List.mem_singleton.1 hq]; exact (by repeat (first | exact List.Mem.head _ | apply List.Mem.tail))) (fun _ _ => trivial)) (fun s hs => Nat.le_trans (q61.2 s hs) (by decide)) (by show 2 ≤ 1000; decide) (hL.later (hw1.base (by simp)))).mono fun e w2 ⟨u, h1, h2, h3⟩ => seg_out h1 h2 (q61.1 ▸ h3)) ?_
    intro v62 wa62 wb62 hm62 hl62 hR62
    obtain ⟨A62, c62, rfl, hs62⟩ := hR62
    refine x_buildSliceL (cs := ([[Value.string ⟨#[85, 78, 83]⟩, .slice A52 1 c52], [Value.string ⟨#[77, 79, 65]⟩, .slice A56 1 c56], [Value.string ⟨#[85, 78, 84]⟩, .slice A62 2 c62]] : List (List Value)).flatten) rfl rfl rfl Tryz.underlying29 sz49 zr49 rfl rfl rfl ?_
    intro p63
    obtain ⟨css, hcl, hrow, hrd⟩ := hT
    rw [hln] at hcl hrow
    refine x_append (e := 49) [(p63, Obj.cells ([[Value.string ⟨#[85, 78, 83]⟩, .slice A52 1 c52], [Value.string ⟨#[77, 79, 65]⟩, .slice A56 1 c56], [Value.string ⟨#[85, 78, 84]⟩, .slice A62 2 c62]] : List (List Value)).flatten.toArray 49), (p61, Obj.cells [Value.string (itoaS ((4 * ls.length + 5 : Nat) : Int)), Value.string (⟨#[49]⟩)].toArray 9), (p55, Obj.cells [Value.string ((⟨#[56, 54, 58]⟩ : ByteArray) ++ itoaS n)].toArray 9), (p51, Obj.cells [Value.string (⟨#[83]⟩)].toArray 9)] (l2 := []) R (len := 2 + 4 * ls.length) (xs := css.flatten) rfl rfl rfl rfl (by rw [List.append_nil]; rfl) hrow Tryz.underlying29 ap49 rfl rfl (m := 3) (news := ([[Value.string ⟨#[85, 78, 83]⟩, .slice A52 1 c52], [Value.string ⟨#[77, 79, 65]⟩, .slice A56 1 c56], [Value.string ⟨#[85, 78, 84]⟩, .slice A62 2 c62]] : List (List Value)).flatten) (fun i hi => at_ownL (vs := ([[Value.string ⟨#[85, 78, 83]⟩, .slice A52 1 c52], [Value.string ⟨#[77, 79, 65]⟩, .slice A56 1 c56], [Value.string ⟨#[85, 78, 84]⟩, .slice A62 2 c62]] : List (List Value)).flatten) (.head _) (by rw [Nat.zero_add]; exact List.getElem?_eq_getElem hi)) rfl (by simp only [maxLen]; omega) (by omega) ?_
    intro R' hR'
    refine x_val rfl rfl rfl (v_assign rfl) ?_
    refine x_end ?_
    refine t_norm ?_
    refine w_ret ?_
    rw [List.append_nil]
    refine ret1 rfl rfl (fun w' hm => ⟨_, rfl, hm.base (by simp), ?_⟩)
    have hsub := List.sublist_append_right ([(p63, Obj.cells ([[Value.string ⟨#[85, 78, 83]⟩, .slice A52 1 c52], [Value.string ⟨#[77, 79, 65]⟩, .slice A56 1 c56], [Value.string ⟨#[85, 78, 84]⟩, .slice A62 2 c62]] : List (List Value)).flatten.toArray 49), (p61, Obj.cells [Value.string (itoaS ((4 * ls.length + 5 : Nat) : Int)), Value.string (⟨#[49]⟩)].toArray 9), (p55, Obj.cells [Value.string ((⟨#[56, 54, 58]⟩ : ByteArray) ++ itoaS n)].toArray 9), (p51, Obj.cells [Value.string (⟨#[83]⟩)].toArray 9)] : List (Nat × Obj)) (rowO 49 R')
    have hmB := hm.less hsub (fun _ h => h)
    have hT' := snocM (T := tySeg) (D := newD w (rowO 49 R')) (ws := w') (ys := tailX ls.length (itoaS n)) hln hcl (fun j h1 h2 => tySeg.keep (hrd j h1 h2) (Kept.frz hm hsub (by simp))) hR' rfl (.cons (tySeg_mk (x := ⟨⟨#[85, 78, 83]⟩, [[⟨#[83]⟩]]⟩) rfl (show (3 : Nat) ≤ 9223372036854775807 by decide) (hs52.keep (Kept.made hmB (by first | repeat (first | exact List.Mem.head _ | apply List.Mem.tail) | simp) hm52 (hm52.base (by simp)).size))) (.cons (tySeg_mk (x := ⟨⟨#[77, 79, 65]⟩, [[⟨#[56, 54]⟩, itoaS n]]⟩) rfl (show (3 : Nat) ≤ 9223372036854775807 by decide) (hs56.keep (Kept.made hmB (by first | repeat (first | exact List.Mem.head _ | apply List.Mem.tail) | simp) hm56 (hm56.base (by simp)).size))) (.cons (tySeg_mk (x := ⟨⟨#[85, 78, 84]⟩, [[itoaS ((4 * ls.length + 5 : Nat) : Int)], [⟨#[49]⟩]]⟩) rfl (show (3 : Nat) ≤ 9223372036854775807 by decide) (hs62.keep (Kept.made hmB (by first | repeat (first | exact List.Mem.head _ | apply List.Mem.tail) | simp) hm62 (hm62.base (by simp)).size))) .nil)))
    exact hT'.rd (e := 49) hmB (fun q hq => hq) (fun _ h => h.1) (fun q hq => hmB.newer (by simp) hq) (by rw [List.length_append, hln]; rfl)
theorem c_withTotalT {v : Value} {ls : List PK.Ord} {D : Nat → Prop} (w : World) (hls : sliceRd tyOrd D w v ls) (n : Int) {t : ByteArray} (hw : ∀ o ∈ ls, wrO (pf o)) (hn : ls.length ≤ 1000) (h0 : 0 ≤ n) (hi : in64 n) (hL : LD w) (ht : itoaS n = t) : Calls Tryz.prog 44 #[v, .string t] w fun e w' => ∃ q, e = .returned q ∧ Later w w' ∧ sliceRd tySeg (fun b => w.heap.size ≤ b) w' q (withX ls t) := by
  subst ht; exact c_withTotal w hls n hw hn h0 hi hL
set_option maxRecDepth 100000 in
theorem c_Invoice {v : Value} {ls : List PK.Ord} {D : Nat → Prop} (w : World) (hls : sliceRd tyOrd D w v ls) (hL : LD w) :
    Calls Tryz.prog 16 #[v] w fun e w' => ∃ q, e = .returned q ∧ Later w w' ∧ sliceRd tySeg (fun b => w.heap.size ≤ b) w' q (invR ls) ∧ ((invR ls).length = 0 → q = .slice none 0 0) := by
  obtain ⟨A, cp, rfl, hlc, hmx, _⟩ := id hls
  have ilen : in64 ((ls.length : Nat) : Int) := by unfold in64; omega
  refine enter (vs := [Value.slice A ls.length cp]) Tryz.func16 rfl Tryz.ntmps16 rfl ?_
  refine w_seq ?_
  refine rg_text ?_
  refine x_val rfl rfl rfl (v_assign rfl) ?_
  refine x_end ?_
  refine t_norm ?_
  refine w_seq ?_
  refine w_seq ?_
  refine rg_text ?_
  refine x_val rfl rfl rfl (v_move rfl) ?_
  refine x_val rfl rfl rfl (v_len_slice Tryz.underlying28 rfl) ?_
  refine x_buildSliceL (cs := [Value.int .i64 ((ls.length : Nat) : Int)]) rfl rfl rfl Tryz.underlying113 sz3 zr3 rfl rfl rfl ?_
  intro p8
  refine x_callb rfl rfl rfl Tryz.func43 (by kernel_rfl) rfl (fun w1 hw1 => c_within 1 999 w1 (rowI_rd (D := fun _ => True) (e := 3) (r := some (p8, [Value.int .i64 ((ls.length : Nat) : Int)], 1)) (n := 1) (ds := [((ls.length : Nat) : Int)]) (rowOK_lit rfl (by decide)) rfl (by simpa using ilen) hw1 (fun q hq => by rw [List.mem_singleton.1 hq]; exact .head _) (fun _ _ => trivial))) ?_
  intro b9 hb9
  refine x_bool rfl rfl rfl (v_not rfl) ?_
  intro b10 hb10
  refine x_end ?_
  refine t_norm ?_
  refine w_cond rfl (fun hc10 => ?_) (fun hc10 => ?_)
  · have hno : ¬payP ls := fun ⟨q1, q2, _⟩ => by
      rw [hb10, hb9] at hc10
      simp [wi] at hc10
      omega
    refine w_seq ?_
    refine rg_text ?_
    refine x_val rfl rfl rfl (v_assign rfl) ?_
    refine x_end ?_
    refine t_norm ?_
    refine w_ret ?_
    refine t_ret ?_
    refine ret1 rfl rfl (fun w' hm => ?_)
    rw [show invR ls = [] from by unfold invR; rw [if_neg hno]]
    exact ⟨_, rfl, hm.base (by simp), sliceRd_nil, fun _ => rfl⟩
  · have hlen : 1 ≤ ls.length ∧ ls.length ≤ 999 := by
      rw [hb10, hb9] at hc10
      simp [wi] at hc10
      omega
    refine w_skip ?_
    refine t_norm ?_
    refine w_seq ?_
    refine rg_text ?_
    refine x_val rfl rfl rfl (v_assign rfl) ?_
    refine x_end ?_
    refine t_norm ?_
    refine w_seq ?_
    refine w_seq ?_
    refine rg_text ?_
    refine x_val rfl rfl rfl (v_move rfl) ?_
    refine x_val rfl rfl rfl (v_len_slice Tryz.underlying28 rfl) ?_
    refine x_val rfl rfl rfl (v_move rfl) ?_
    refine x_end ?_
    refine t_norm ?_
    refine w_block ?_
    refine w_loop (σ := Nat) (fun k => k ≤ ls.length ∧ ∀ o ∈ ls.take k, wrO (pf o)) (fun k => [(0, Value.slice A ls.length cp), (3, Value.int .i64 (totalP (ls.take k))), (11, Value.slice A ls.length cp), (12, Value.int .i64 (ls.length : Nat)), (13, Value.int .i64 (k : Nat))]) (fun k => []) (fun k => [(w, fun _ => True)]) (fun k => ls.length - k) (0) (⟨Nat.zero_le _, fun o ho => by simp at ho⟩) (l_start (by repeat (first | exact Sub.nil | refine Sub.cons rfl ?_)) (fun _ h => h.less (List.nil_sublist _) (fun _ h => h))) ?_
    rintro k ⟨hk, hwr⟩
    refine w_state ([(0, Value.slice A ls.length cp), (3, Value.int .i64 (totalP (ls.take k))), (11, Value.slice A ls.length cp), (12, Value.int .i64 (ls.length : Nat)), (13, Value.int .i64 (k : Nat))]) ([]) ([(w, fun _ => True)]) ?_
    refine w_seq ?_
    refine rg_text ?_
    refine x_bool rfl rfl rfl (v_lss rfl rfl) ?_
    intro b14 hb14
    refine x_end ?_
    refine t_norm ?_
    refine w_seq ?_
    refine w_cond rfl (fun hc14 => ?_) (fun hc14 => ?_)
    · simp only [hb14, decide_eq_true_eq, decide_eq_false_iff_not, Bool.and_eq_true, Bool.or_eq_true, Bool.and_eq_false_iff, Bool.or_eq_false_iff, Bool.not_eq_true', Bool.not_eq_false', ne_eq, Decidable.not_not] at hc14
      have hkl : k < ls.length := by omega
      obtain ⟨ob, oo, hA, _, hc, hoA⟩ := ord_at hls hkl
      refine w_skip ?_
      refine t_norm ?_
      refine w_seq ?_
      refine w_block ?_
      refine w_seq ?_
      refine rg_text ?_
      refine x_val rfl rfl rfl (v_indexAddr Tryz.underlying28 sz25 (congrArg (fun A => some (Value.slice A ls.length cp)) hA) rfl (hkl) rfl) ?_
      refine x_val rfl rfl rfl (v_loadN (vs := ls[k].cells) Tryz.underlying25 rfl sz25 rfl (fun j hj => at_ro (.head _) trivial (hc j hj))) ?_
      refine x_alloc rfl rfl rfl zr25 ?_
      intro p5
      refine x_store0 [] rfl rfl rfl rfl sz25 rfl rfl ?_
      refine x_end ?_
      refine t_norm ?_
      refine w_seq ?_
      refine rg_text ?_
      refine x_val rfl rfl rfl (v_fieldAddr (off' := 1) Tryz.underlying25 rfl sz3 (by decide) rfl rfl) ?_
      refine x_store [] rfl rfl rfl rfl sz3 rfl (by show 2 ≤ 9; decide) ?_
      refine x_end ?_
      refine t_norm ?_
      refine w_seq ?_
      refine w_seq ?_
      refine w_state _ [(p5, Obj.cells (pf ls[k]).cells.toArray 25)] _ ?_
      refine rg_text ?_
      refine x_val rfl rfl rfl (v_load_blk (e := 25) (fz := (0, 0)) (cs := (pf ls[k]).cells.toArray) Tryz.underlying25 rfl rfl (.head _) sz25) ?_
      refine x_callb rfl rfl rfl Tryz.func30 (by kernel_rfl) rfl (fun w1 hw1 => c_writable (pf ls[k]) w1 (pf_ok hoA)) ?_
      intro b19 hb19
      refine x_bool rfl rfl rfl (v_not rfl) ?_
      intro b20 hb20
      refine x_end ?_
      refine t_norm ?_
      refine w_cond rfl (fun hc20 => ?_) (fun hc20 => ?_)
      · have hno : ¬payP ls := fun ⟨_, _, q⟩ => by
          rw [hb20, hb19, (writB_iff _).2 (q ls[k] (List.getElem_mem hkl))] at hc20
          cases hc20
        refine w_seq ?_
        refine rg_text ?_
        refine x_val rfl rfl rfl (v_assign rfl) ?_
        refine x_end ?_
        refine t_norm ?_
        refine w_ret ?_
        refine t_ret ?_
        refine b_ret ?_
        refine t_ret ?_
        refine t_ret ?_
        refine b_ret ?_
        refine t_ret ?_
        refine ret1 rfl rfl (fun w' hm => ?_)
        rw [show invR ls = [] from by unfold invR; rw [if_neg hno]]
        exact ⟨_, rfl, hm.base (by simp), sliceRd_nil, fun _ => rfl⟩
      · have hyes : wrO (pf ls[k]) := by
          rw [hb20, hb19] at hc20
          exact (writB_iff _).1 (by simpa using hc20)
        obtain ⟨g1, g2, _⟩ := line_rng hyes
        obtain ⟨t1, t2⟩ := total_le hwr
        rw [List.length_take] at t2
        have hst : totalP (ls.take (k + 1)) = totalP (ls.take k) + ls[k].copies * ls[k].price := by rw [take_snoc hkl, totalP_snoc]
        refine w_skip ?_
        refine t_norm ?_
        refine rg_text ?_
        refine x_val rfl rfl rfl (v_move rfl) ?_
        refine x_val rfl rfl rfl (v_fieldAddr (off' := 4) Tryz.underlying25 rfl sz3 (by decide) rfl rfl) ?_
        refine x_val rfl rfl rfl (v_load Tryz.underlying3 rfl rfl (at_ownL (vs := (pf ls[k]).cells) (.head _) rfl)) ?_
        refine x_val rfl rfl rfl (v_fieldAddr (off' := 5) Tryz.underlying25 rfl sz3 (by decide) rfl rfl) ?_
        refine x_val rfl rfl rfl (v_load Tryz.underlying3 rfl rfl (at_ownL (vs := (pf ls[k]).cells) (.head _) rfl)) ?_
        refine x_val rfl rfl rfl (v_muli (c := ls[k].copies * ls[k].price) rfl rfl rfl (by omega)) ?_
        refine x_val rfl rfl rfl (v_addi (c := totalP (ls.take (k + 1))) rfl rfl hst.symm (by rw [hst]; omega)) ?_
        refine x_val rfl rfl rfl (v_assign rfl) ?_
        refine x_end ?_
        refine b_norm ?_
        refine t_norm ?_
        refine rg_text ?_
        refine x_val rfl rfl rfl (v_addi rfl rfl rfl (by first | omega | (dsimp only; omega))) ?_
        refine x_val rfl rfl rfl (v_move rfl) ?_
        refine x_end ?_
        exact l_norm (k + 1) ⟨by omega, take_all_wr hkl hwr hyes⟩ (by omega) (by repeat (first | exact Sub.nil | refine Sub.cons rfl ?_)) (fun w1 h => h.less (List.nil_sublist _) (fun _ h => h))
    · simp only [hb14, decide_eq_true_eq, decide_eq_false_iff_not, Bool.and_eq_true, Bool.or_eq_true, Bool.and_eq_false_iff, Bool.or_eq_false_iff, Bool.not_eq_true', Bool.not_eq_false', ne_eq, Decidable.not_not] at hc14
      obtain rfl : k = ls.length := by omega
      rw [List.take_length] at hwr
      rw [List.take_length]
      have hyes : payP ls := ⟨hlen.1, hlen.2, hwr⟩
      obtain ⟨t1, t2⟩ := total_le hwr
      have it : in64 (totalP ls) := by unfold in64; omega
      refine w_exit ?_
      refine t_exit ?_
      refine t_exit ?_
      refine b_hit ?_
      refine t_norm ?_
      refine w_seq ?_
      refine rg_text ?_
      refine x_val rfl rfl rfl (v_move rfl) ?_
      refine x_val rfl rfl rfl (v_move rfl) ?_
      refine x_callv rfl rfl rfl Tryz.func32 (by kernel_rfl) rfl (fun w1 hw1 => c_number (totalP ls) w1 it (hL.later (hw1.base (by simp)))) ?_
      refine x_call (R := fun v wa wb => sliceRd tySeg (fun b => wa.heap.size ≤ b) wb v (withX ls (itoaS (totalP ls)))) rfl rfl rfl Tryz.func44 (by kernel_rfl) rfl (fun w1 hw1 => (c_withTotal w1 (hls.keep (Kept.later (hw1.base (by simp)))) (totalP ls) hwr (by omega) t1 it (hL.later (hw1.base (by simp)))).mono fun e w2 ⟨v, h1, h2, h3⟩ => ⟨_, h1, h2, h3⟩) ?_
      intro v32 wa32 wb32 hm32 hl32 hR32
      refine x_val rfl rfl rfl (v_assign rfl) ?_
      refine x_end ?_
      refine t_norm ?_
      refine w_ret ?_
      refine ret1 rfl rfl (fun w' hm => ?_)
      rw [show invR ls = withX ls (itoaS (totalP ls)) from by unfold invR; rw [if_pos hyes]]
      exact ⟨_, rfl, hm.base (by simp), hR32.keep (Kept.made0 hm hm32 (by simp) (by simp)), fun h => by rw [withX_len] at h; omega⟩
set_option maxHeartbeats 1000000 in
set_option maxRecDepth 100000 in
theorem c_RdIA {v : Value} {l : List Seg} {D : Nat → Prop} (w : World) (hl : sliceRd tySeg D w v l) (hbig : bigO l) (hL : LD w) (hC : 0 ≤ readP (totE l) ∧ itoaS (readP (totE l)) = totE l) :
    Calls Tryz.prog 18 #[v] w fun e w' => ∃ q, e = .returned (.tuple #[q, .int .i64 (rdI l).2]) ∧ Later w w' ∧ sliceRd tyOrd (fun b => w.heap.size ≤ b) w' q (rdI l).1 := by
  obtain ⟨A, cp, rfl, hlc, hmx, _⟩ := id hl
  refine enter (vs := [Value.slice A l.length cp]) Tryz.func18 rfl Tryz.ntmps18 rfl ?_
  refine w_seq ?_
  refine rg_text ?_
  refine x_val rfl rfl rfl (v_assign rfl) ?_
  refine x_val rfl rfl rfl (v_assign rfl) ?_
  refine x_end ?_
  refine t_norm ?_
  refine w_seq ?_
  refine rg_text ?_
  refine x_val rfl rfl rfl (v_assign rfl) ?_
  refine x_end ?_
  refine t_norm ?_
  refine w_seq ?_
  refine w_seq ?_
  refine rg_text ?_
  refine x_val rfl rfl rfl (v_assign rfl) ?_
  refine x_end ?_
  refine t_norm ?_
  refine w_block ?_
  refine w_loop (σ := Nat × RowS) (fun x => x.1 ≤ min 1000 ((l.length - 3) / 4) ∧ RowT tyOrd (fun _ => False) w x.2 ((List.range x.1).map (lineE l))) (fun x => [(0, Value.slice A l.length cp), (4, rowV x.2 x.1), (5, Value.int .i64 ((4 * x.1 + 2 : Nat) : Int))]) (fun x => rowO 25 x.2) (fun x => [(w, fun _ => True)]) (fun x => min 1000 ((l.length - 3) / 4) - x.1) ((0, none)) (⟨Nat.zero_le _, RowT.nil⟩) (l_start (by repeat (first | exact Sub.nil | refine Sub.cons rfl ?_)) (fun _ h => h)) ?_
  rintro ⟨k, R⟩ ⟨hk, hT⟩
  refine w_state ([(0, Value.slice A l.length cp), (4, rowV R k), (5, Value.int .i64 ((4 * k + 2 : Nat) : Int))]) (rowO 25 R) ([(w, fun _ => True)]) ?_
  dsimp only at hk hT
  have hln : ((List.range k).map (lineE l)).length = k := by simp
  refine w_seq ?_
  refine w_seq ?_
  refine rg_text ?_
  refine x_val rfl rfl rfl (v_move rfl) ?_
  refine x_val rfl rfl rfl (v_addi (c := ((4 * k + 6 : Nat) : Int)) rfl rfl (by omega) (by omega)) ?_
  refine x_val rfl rfl rfl (v_move rfl) ?_
  refine x_val rfl rfl rfl (v_len_slice Tryz.underlying29 rfl) ?_
  refine x_bool rfl rfl rfl (v_lss rfl rfl) ?_
  intro b13 hb13
  refine x_val rfl rfl rfl (v_move rfl) ?_
  refine x_if [] rfl rfl rfl rfl rfl (fun hg => by obtain ⟨hg0, _⟩ := hg; subst hg0; (try simp only [List.cons_append, List.nil_append, gvl_nil, gvl_t, gvl_f]); exact v_move rfl) ?_
  refine x_if [] rfl rfl rfl rfl rfl (fun hg => by obtain ⟨hg0, _⟩ := hg; subst hg0; (try simp only [List.cons_append, List.nil_append, gvl_nil, gvl_t, gvl_f]); exact v_len_slice Tryz.underlying28 rfl) ?_
  refine x_ifb [] rfl rfl rfl rfl rfl (fun hg => by obtain ⟨hg0, _⟩ := hg; subst hg0; (try simp only [List.cons_append, List.nil_append, gvl_nil, gvl_t, gvl_f]); exact v_leq rfl rfl) ?_
  intro b17 hb17
  refine x_bool rfl rfl rfl (v_and rfl rfl) ?_
  intro b18 hb18
  refine x_end ?_
  refine t_norm ?_
  refine w_cond rfl (fun hc18 => ?_) (fun hc18 => ?_)
  · simp only [hb18, hb17, hb13, decide_eq_true_eq, decide_eq_false_iff_not, Bool.and_eq_true, Bool.or_eq_true, Bool.and_eq_false_iff, Bool.or_eq_false_iff, Bool.not_eq_true', Bool.not_eq_false', ne_eq, Decidable.not_not] at hc18
    have hkc : k < min 1000 ((l.length - 3) / 4) := by omega
    refine w_skip ?_
    refine t_norm ?_
    refine w_seq ?_
    refine w_block ?_
    refine rg_text ?_
    refine x_val rfl rfl rfl (v_move rfl) ?_
    refine x_val rfl rfl rfl (v_move rfl) ?_
    refine x_val rfl rfl rfl (v_move rfl) ?_
    refine x_callv rfl rfl rfl Tryz.func40 (by kernel_rfl) rfl (fun w1 hw1 => c_text (4 * k + 2) 2 0 w1 (hl.keep (Kept.later (hw1.base (by simp))))) ?_
    refine x_callv rfl rfl rfl Tryz.func41 (by kernel_rfl) rfl (fun w1 hw1 => c_erec (txt l (4 * k + 2) 2 0) w1 (txt_sz hbig (4 * k + 2) 2 0) (hL.later (hw1.base (by simp)))) ?_
    refine x_val rfl rfl rfl (v_move rfl) ?_
    refine x_val rfl rfl rfl (v_move rfl) ?_
    refine x_val rfl rfl rfl (v_addi (c := ((4 * k + 3 : Nat) : Int)) rfl rfl (by omega) (by omega)) ?_
    refine x_callv rfl rfl rfl Tryz.func40 (by kernel_rfl) rfl (fun w1 hw1 => c_text (4 * k + 3) 0 1 w1 (hl.keep (Kept.later (hw1.base (by simp))))) ?_
    refine x_callv rfl rfl rfl Tryz.func39 (by kernel_rfl) rfl (fun w1 hw1 => c_read (txt l (4 * k + 3) 0 1) w1 (Nat.le_trans (txt_sz hbig (4 * k + 3) 0 1) (by decide)) (hL.later (hw1.base (by simp)))) ?_
    refine x_val rfl rfl rfl (v_move rfl) ?_
    refine x_val rfl rfl rfl (v_move rfl) ?_
    refine x_val rfl rfl rfl (v_addi (c := ((4 * k + 4 : Nat) : Int)) rfl rfl (by omega) (by omega)) ?_
    refine x_callv rfl rfl rfl Tryz.func40 (by kernel_rfl) rfl (fun w1 hw1 => c_text (4 * k + 4) 0 1 w1 (hl.keep (Kept.later (hw1.base (by simp))))) ?_
    refine x_callv rfl rfl rfl Tryz.func39 (by kernel_rfl) rfl (fun w1 hw1 => c_read (txt l (4 * k + 4) 0 1) w1 (Nat.le_trans (txt_sz hbig (4 * k + 4) 0 1) (by decide)) (hL.later (hw1.base (by simp)))) ?_
    refine x_val rfl rfl rfl (v_move rfl) ?_
    refine x_val rfl rfl rfl (v_move rfl) ?_
    refine x_val rfl rfl rfl (v_addi (c := ((4 * k + 5 : Nat) : Int)) rfl rfl (by omega) (by omega)) ?_
    refine x_callv rfl rfl rfl Tryz.func40 (by kernel_rfl) rfl (fun w1 hw1 => c_text (4 * k + 5) 0 1 w1 (hl.keep (Kept.later (hw1.base (by simp))))) ?_
    refine x_callv rfl rfl rfl Tryz.func39 (by kernel_rfl) rfl (fun w1 hw1 => c_read (txt l (4 * k + 5) 0 1) w1 (Nat.le_trans (txt_sz hbig (4 * k + 5) 0 1) (by decide)) (hL.later (hw1.base (by simp)))) ?_
    refine x_val rfl rfl rfl (v_buildL (places := [(0, 1), (1, 1), (2, 2), (4, 1), (5, 1), (6, 1), (7, 1), (8, 1)]) Tryz.underlying25 zr25 (by kernel_rfl) rfl rfl) ?_
    refine x_buildSliceL (cs := (lineE l k).cells) rfl rfl rfl Tryz.underlying28 sz25 zr25 rfl rfl rfl ?_
    intro p42
    obtain ⟨css, hcl, hrow, hrd⟩ := hT
    rw [hln] at hcl hrow
    refine x_append (e := 25) [(p42, Obj.cells (lineE l k).cells.toArray 25)] (l2 := []) R (len := k) (xs := css.flatten) rfl rfl rfl rfl (by rw [List.append_nil]; rfl) hrow Tryz.underlying28 ap25 rfl rfl (m := 1) (news := (lineE l k).cells) (fun i hi => at_ownL (vs := (lineE l k).cells) (.head _) (by rw [Nat.zero_add]; exact List.getElem?_eq_getElem hi)) rfl (by simp only [maxLen]; omega) (by omega) ?_
    intro R' hR'
    refine x_val rfl rfl rfl (v_assign rfl) ?_
    refine x_end ?_
    refine b_norm ?_
    refine t_norm ?_
    refine rg_text ?_
    refine x_val rfl rfl rfl (v_move rfl) ?_
    refine x_val rfl rfl rfl (v_addi (c := ((4 * k + 6 : Nat) : Int)) rfl rfl (by omega) (by omega)) ?_
    refine x_val rfl rfl rfl (v_assign rfl) ?_
    refine x_end ?_
    rw [List.append_nil]
    exact l_norm (x := (k, R)) (μ := fun q : Nat × RowS => min 1000 ((l.length - 3) / 4) - q.1) (k + 1, R') ⟨by dsimp only; omega, by dsimp only; rw [range_snoc]; exact snocN hln hcl hrd hR' ⟨rfl, lineE_okA l k⟩⟩ (by simp only; omega) (by dsimp only; rw [show 4 * (k + 1) + 2 = 4 * k + 6 by omega]; repeat (first | exact Sub.nil | refine Sub.cons rfl ?_)) (fun w1 h => h.less (List.sublist_append_right _ _) (fun _ h => h))
  · simp only [hb18, hb17, hb13, decide_eq_true_eq, decide_eq_false_iff_not, Bool.and_eq_true, Bool.or_eq_true, Bool.and_eq_false_iff, Bool.or_eq_false_iff, Bool.not_eq_true', Bool.not_eq_false', ne_eq, Decidable.not_not] at hc18
    obtain rfl : k = min 1000 ((l.length - 3) / 4) := by omega
    refine w_exit ?_
    refine t_exit ?_
    refine t_exit ?_
    refine b_hit ?_
    refine t_norm ?_
    refine w_seq ?_
    refine rg_text ?_
    refine x_val rfl rfl rfl (v_move rfl) ?_
    refine x_call (R := fun v wa wb => ∃ A1 c1, v = .slice A1 (invR (linesE l)).length c1 ∧ sliceRd tySeg (fun b => wa.heap.size ≤ b) wb (.slice A1 (invR (linesE l)).length c1) (invR (linesE l)) ∧ A1.isNone = decide ((invR (linesE l)).length = 0)) rfl rfl rfl Tryz.func16 (by kernel_rfl) rfl (fun w1 hw1 => (c_Invoice (ls := linesE l) w1 (hT.any (D' := fun _ => True) (e := 25) hw1 (fun q hq => hq) (fun _ _ => trivial) (by simp)) (hL.later (hw1.base (by simp)))).mono fun e w2 ⟨v, h1, h2, h3, h4⟩ => ord_out h1 h2 h3 h4) ?_
    intro v45 wa45 wb45 hm45 hl45 hR45
    obtain ⟨A1, c1, rfl, hr45, hn45⟩ := hR45
    refine x_val rfl rfl rfl (v_assign rfl) ?_
    refine x_end ?_
    refine t_norm ?_
    refine w_seq ?_
    refine w_seq ?_
    refine rg_text ?_
    refine x_val rfl rfl rfl (v_move rfl) ?_
    refine x_bool rfl rfl rfl (v_sliceNil Tryz.underlying29 rfl) ?_
    intro b47 hb47
    refine x_val rfl rfl rfl (v_move rfl) ?_
    refine x_if [] rfl rfl rfl rfl rfl (fun hg => by obtain ⟨hg0, _⟩ := hg; subst hg0; (try simp only [List.cons_append, List.nil_append, gvl_nil, gvl_t, gvl_f]); exact v_move rfl) ?_
    refine x_if [] rfl rfl rfl rfl rfl (fun hg => by obtain ⟨hg0, _⟩ := hg; subst hg0; (try simp only [List.cons_append, List.nil_append, gvl_nil, gvl_t, gvl_f]); exact v_len_slice Tryz.underlying29 rfl) ?_
    refine x_if [] rfl rfl rfl rfl rfl (fun hg => by obtain ⟨hg0, _⟩ := hg; subst hg0; (try simp only [List.cons_append, List.nil_append, gvl_nil, gvl_t, gvl_f]); exact v_move rfl) ?_
    refine x_if [] rfl rfl rfl rfl rfl (fun hg => by obtain ⟨hg0, _⟩ := hg; subst hg0; (try simp only [List.cons_append, List.nil_append, gvl_nil, gvl_t, gvl_f]); exact v_len_slice Tryz.underlying29 rfl) ?_
    refine x_ifb [] rfl rfl rfl rfl rfl (fun hg => by obtain ⟨hg0, _⟩ := hg; subst hg0; (try simp only [List.cons_append, List.nil_append, gvl_nil, gvl_t, gvl_f]); exact v_neq rfl rfl) ?_
    intro b53 hb53
    refine x_bool rfl rfl rfl (v_or rfl rfl) ?_
    intro b54 hb54
    refine x_end ?_
    refine t_norm ?_
    refine w_cond rfl (fun hc54 => ?_) (fun hc54 => ?_)
    · have hno : ¬(payP (linesE l) ∧ (invR (linesE l)).length = l.length) := fun ⟨q1, q2⟩ => by
        rw [hb54, hb53, hb47, hn45, q2] at hc54
        have q3 := invR_len (linesE l)
        rw [if_pos q1, q2] at q3
        simp at hc54
        rw [hc54] at q3
        simp at q3
      refine w_seq ?_
      refine rg_text ?_
      refine x_val rfl rfl rfl (v_assign rfl) ?_
      refine x_val rfl rfl rfl (v_assign rfl) ?_
      refine x_end ?_
      refine t_norm ?_
      refine w_ret ?_
      refine t_ret ?_
      refine ret2 rfl rfl rfl (fun w' hm => ?_)
      rw [show rdI l = ([], 11) from by unfold rdI; rw [if_neg hno]]
      exact ⟨_, rfl, hm.base (by simp), sliceRd_nil⟩
    · have hyes : (invR (linesE l)).length = l.length ∧ (invR (linesE l)).length ≠ 0 := by
        rw [hb54, hb53, hb47, hn45] at hc54
        simp only [Bool.or_eq_false_iff, decide_eq_false_iff_not, ne_eq, Decidable.not_not] at hc54
        exact ⟨by omega, hc54.1⟩
      obtain ⟨hle, hl0⟩ := hyes
      have hpay : payP (linesE l) := by
        apply Classical.byContradiction; intro q; apply hl0; rw [invR_len, if_neg q]
      obtain ⟨p1, p2, p3⟩ := id hpay
      have hl5 : l.length = 4 * (linesE l).length + 5 := by rw [← hle, invR_len, if_pos hpay]
      refine w_skip ?_
      refine t_norm ?_
      refine w_seq ?_
      refine rg_text ?_
      refine x_val rfl rfl rfl (v_move rfl) ?_
      refine x_val rfl rfl rfl (v_move rfl) ?_
      refine x_val rfl rfl rfl (v_len_slice Tryz.underlying29 rfl) ?_
      refine x_val rfl rfl rfl (v_subi (c := ((l.length - 2 : Nat) : Int)) rfl rfl (by omega) (by omega)) ?_
      refine x_callv rfl rfl rfl Tryz.func40 (by kernel_rfl) rfl (fun w1 hw1 => show Calls _ _ _ w1 (fun e w2 => e = .returned (.string (totE l)) ∧ Later w1 w2) from c_text (l.length - 2) 0 1 w1 (hl.keep (Kept.later (hw1.base (by simp))))) ?_
      refine x_val rfl rfl rfl (v_assign rfl) ?_
      refine x_end ?_
      refine t_norm ?_
      refine w_seq ?_
      refine w_seq ?_
      refine rg_text ?_
      refine x_val rfl rfl rfl (v_move rfl) ?_
      refine x_callv rfl rfl rfl Tryz.func39 (by kernel_rfl) rfl (fun w1 hw1 => c_read (totE l) w1 (Nat.le_trans (txt_sz hbig (l.length - 2) 0 1) (by decide)) (hL.later (hw1.base (by simp)))) ?_
      refine x_val rfl rfl rfl (v_assign rfl) ?_
      refine x_end ?_
      refine t_norm ?_
      refine w_block ?_
      refine w_seq ?_
      refine rg_text ?_
      refine x_val rfl rfl rfl (v_move rfl) ?_
      refine x_val rfl rfl rfl (v_move rfl) ?_
      refine x_callb rfl rfl rfl Tryz.func42 (by kernel_rfl) rfl (fun w1 hw1 => c_same (xs := invR (linesE l)) (ys := l) w1 (keep_new hr45 hw1 (by simp) hm45) (hl.keep (Kept.later (hw1.base (by simp))))) ?_
      intro b65 hb65
      refine x_val rfl rfl rfl (v_assign rfl) ?_
      refine x_end ?_
      refine t_norm ?_
      refine w_cond rfl (fun hc62 => ?_) (fun hc62 => ?_)
      · have hsame : invR (linesE l) = l := by rw [hb65] at hc62; simpa using hc62
        refine w_seq ?_
        refine rg_text ?_
        refine x_val rfl rfl rfl (v_move rfl) ?_
        refine x_val rfl rfl rfl (v_assign rfl) ?_
        refine x_val rfl rfl rfl (v_assign rfl) ?_
        refine x_end ?_
        refine t_norm ?_
        refine w_ret ?_
        refine b_ret ?_
        refine t_ret ?_
        refine ret2 rfl rfl rfl (fun w' hm => ?_)
        rw [show rdI l = (linesE l, 0) from by unfold rdI; rw [if_pos ⟨hpay, hle⟩, if_pos hsame]]
        exact ⟨_, rfl, hm.base (by simp), (hT.any (e := 25) hm (fun q hq => hq) (fun q hq => hm.newer (by simp) hq) (by simp))⟩
      · have hdiff : ¬invR (linesE l) = l := by rw [hb65] at hc62; simpa using hc62
        refine w_seq ?_
        refine rg_text ?_
        refine x_val rfl rfl rfl (v_move rfl) ?_
        refine x_bool rfl rfl rfl (v_geq rfl rfl) ?_
        intro b69 hb69
        obtain rfl : b69 = true := by rw [hb69]; exact decide_eq_true hC.1
        refine x_val rfl rfl rfl (v_move rfl) ?_
        refine x_if [] rfl rfl rfl rfl rfl (fun hg => by obtain ⟨hg0, _⟩ := hg; (try simp only [List.cons_append, List.nil_append, gvl_nil, gvl_t, gvl_f]); exact v_move rfl) ?_
        refine x_call_if [] rfl rfl rfl rfl rfl Tryz.func32 (by kernel_rfl) (fun hg => by obtain ⟨hg0, _⟩ := hg; (try simp only [List.cons_append, List.nil_append, gvl_nil, gvl_t, gvl_f]); refine ⟨_, rfl, ?_⟩; exact fun w1 hw1 => c_number (readP (totE l)) w1 (readP_in _) (hL.later (hw1.base (by simp)))) ?_
        refine x_if [] rfl rfl rfl rfl rfl (fun hg => by obtain ⟨hg0, _⟩ := hg; (try simp only [List.cons_append, List.nil_append, gvl_nil, gvl_t, gvl_f]); exact v_move rfl) ?_
        refine x_ifb [] rfl rfl rfl rfl rfl (fun hg => by obtain ⟨hg0, _⟩ := hg; (try simp only [List.cons_append, List.nil_append, gvl_nil, gvl_t, gvl_f]); exact v_seql rfl rfl) ?_
        intro b74 hb74
        obtain rfl : b74 = true := by rw [hb74]; exact decide_eq_true hC.2
        refine x_bool rfl rfl rfl (v_and rfl rfl) ?_
        intro b75 hb75
        obtain rfl : b75 = true := hb75
        refine x_val rfl rfl rfl (v_move rfl) ?_
        refine x_if [] rfl rfl rfl rfl rfl (fun hg => by obtain ⟨hg0, _⟩ := hg; (try simp only [List.cons_append, List.nil_append, gvl_nil, gvl_t, gvl_f]); exact v_move rfl) ?_
        refine x_if [] rfl rfl rfl rfl rfl (fun hg => by obtain ⟨hg0, _⟩ := hg; (try simp only [List.cons_append, List.nil_append, gvl_nil, gvl_t, gvl_f]); exact v_move rfl) ?_
        refine x_call_g (R := fun v wa wb => sliceRd tySeg (fun b => wa.heap.size ≤ b) wb v (withX (linesE l) (totE l))) rfl rfl rfl rfl rfl Tryz.func44 (by kernel_rfl) rfl (fun w1 hw1 => (c_withTotalT (ls := linesE l) w1 (hT.any (D' := fun _ => True) (e := 25) hw1 (fun q hq => hq) (fun _ _ => trivial) (by simp)) (readP (totE l)) p3 (by omega) hC.1 (readP_in _) (hL.later (hw1.base (by simp))) hC.2).mono fun e w2 ⟨v, h1, h2, h3⟩ => ⟨_, h1, h2, h3⟩) ?_
        intro v79 wa79 wb79 hm79 hl79 hR79
        refine x_if [] rfl rfl rfl rfl rfl (fun hg => by obtain ⟨hg0, _⟩ := hg; (try simp only [List.cons_append, List.nil_append, gvl_nil, gvl_t, gvl_f]); exact v_move rfl) ?_
        refine x_call_ifb [] rfl rfl rfl rfl rfl Tryz.func42 (by kernel_rfl) (fun hg => by obtain ⟨hg0, _⟩ := hg; (try simp only [List.cons_append, List.nil_append, gvl_nil, gvl_t, gvl_f]); refine ⟨_, rfl, ?_⟩; exact fun w1 hw1 => c_same (xs := withX (linesE l) (totE l)) (ys := l) w1 (keep_new hR79 hw1 (by simp) hm79) (hl.keep (Kept.later (hw1.base (by simp))))) ?_
        intro b81 hb81
        refine x_bool rfl rfl rfl (v_and rfl rfl) ?_
        intro b82 hb82
        refine x_val rfl rfl rfl (v_assign rfl) ?_
        refine x_end ?_
        refine t_norm ?_
        refine w_cond rfl (fun hc67 => ?_) (fun hc67 => ?_)
        · have hw60 : withX (linesE l) (totE l) = l := by
            rw [hb82, hb81] at hc67
            simpa using hc67
          refine w_seq ?_
          refine rg_text ?_
          refine x_val rfl rfl rfl (v_assign rfl) ?_
          refine x_val rfl rfl rfl (v_assign rfl) ?_
          refine x_end ?_
          refine t_norm ?_
          refine w_ret ?_
          refine b_ret ?_
          refine t_ret ?_
          refine ret2 rfl rfl rfl (fun w' hm => ?_)
          rw [show rdI l = ([], 60) from by unfold rdI; rw [if_pos ⟨hpay, hle⟩, if_neg hdiff, if_pos ⟨hC.1, hC.2, hw60⟩]]
          exact ⟨_, rfl, hm.base (by simp), sliceRd_nil⟩
        · have hw60 : ¬withX (linesE l) (totE l) = l := by
            rw [hb82, hb81] at hc67
            simpa using hc67
          refine w_skip ?_
          refine b_norm ?_
          refine t_norm ?_
          refine w_seq ?_
          refine rg_text ?_
          refine x_val rfl rfl rfl (v_assign rfl) ?_
          refine x_val rfl rfl rfl (v_assign rfl) ?_
          refine x_end ?_
          refine t_norm ?_
          refine w_ret ?_
          refine ret2 rfl rfl rfl (fun w' hm => ?_)
          rw [show rdI l = ([], 11) from by unfold rdI; rw [if_pos ⟨hpay, hle⟩, if_neg hdiff, if_neg (fun q => hw60 q.2.2)]]
          exact ⟨_, rfl, hm.base (by simp), sliceRd_nil⟩
set_option maxHeartbeats 1000000 in
set_option maxRecDepth 100000 in
theorem c_RdIB {v : Value} {l : List Seg} {D : Nat → Prop} (w : World) (hl : sliceRd tySeg D w v l) (hbig : bigO l) (hL : LD w) (hC : ¬(0 ≤ readP (totE l) ∧ itoaS (readP (totE l)) = totE l)) :
    Calls Tryz.prog 18 #[v] w fun e w' => ∃ q, e = .returned (.tuple #[q, .int .i64 (rdI l).2]) ∧ Later w w' ∧ sliceRd tyOrd (fun b => w.heap.size ≤ b) w' q (rdI l).1 := by
  obtain ⟨A, cp, rfl, hlc, hmx, _⟩ := id hl
  refine enter (vs := [Value.slice A l.length cp]) Tryz.func18 rfl Tryz.ntmps18 rfl ?_
  refine w_seq ?_
  refine rg_text ?_
  refine x_val rfl rfl rfl (v_assign rfl) ?_
  refine x_val rfl rfl rfl (v_assign rfl) ?_
  refine x_end ?_
  refine t_norm ?_
  refine w_seq ?_
  refine rg_text ?_
  refine x_val rfl rfl rfl (v_assign rfl) ?_
  refine x_end ?_
  refine t_norm ?_
  refine w_seq ?_
  refine w_seq ?_
  refine rg_text ?_
  refine x_val rfl rfl rfl (v_assign rfl) ?_
  refine x_end ?_
  refine t_norm ?_
  refine w_block ?_
  refine w_loop (σ := Nat × RowS) (fun x => x.1 ≤ min 1000 ((l.length - 3) / 4) ∧ RowT tyOrd (fun _ => False) w x.2 ((List.range x.1).map (lineE l))) (fun x => [(0, Value.slice A l.length cp), (4, rowV x.2 x.1), (5, Value.int .i64 ((4 * x.1 + 2 : Nat) : Int))]) (fun x => rowO 25 x.2) (fun x => [(w, fun _ => True)]) (fun x => min 1000 ((l.length - 3) / 4) - x.1) ((0, none)) (⟨Nat.zero_le _, RowT.nil⟩) (l_start (by repeat (first | exact Sub.nil | refine Sub.cons rfl ?_)) (fun _ h => h)) ?_
  rintro ⟨k, R⟩ ⟨hk, hT⟩
  refine w_state ([(0, Value.slice A l.length cp), (4, rowV R k), (5, Value.int .i64 ((4 * k + 2 : Nat) : Int))]) (rowO 25 R) ([(w, fun _ => True)]) ?_
  dsimp only at hk hT
  have hln : ((List.range k).map (lineE l)).length = k := by simp
  refine w_seq ?_
  refine w_seq ?_
  refine rg_text ?_
  refine x_val rfl rfl rfl (v_move rfl) ?_
  refine x_val rfl rfl rfl (v_addi (c := ((4 * k + 6 : Nat) : Int)) rfl rfl (by omega) (by omega)) ?_
  refine x_val rfl rfl rfl (v_move rfl) ?_
  refine x_val rfl rfl rfl (v_len_slice Tryz.underlying29 rfl) ?_
  refine x_bool rfl rfl rfl (v_lss rfl rfl) ?_
  intro b13 hb13
  refine x_val rfl rfl rfl (v_move rfl) ?_
  refine x_if [] rfl rfl rfl rfl rfl (fun hg => by obtain ⟨hg0, _⟩ := hg; subst hg0; (try simp only [List.cons_append, List.nil_append, gvl_nil, gvl_t, gvl_f]); exact v_move rfl) ?_
  refine x_if [] rfl rfl rfl rfl rfl (fun hg => by obtain ⟨hg0, _⟩ := hg; subst hg0; (try simp only [List.cons_append, List.nil_append, gvl_nil, gvl_t, gvl_f]); exact v_len_slice Tryz.underlying28 rfl) ?_
  refine x_ifb [] rfl rfl rfl rfl rfl (fun hg => by obtain ⟨hg0, _⟩ := hg; subst hg0; (try simp only [List.cons_append, List.nil_append, gvl_nil, gvl_t, gvl_f]); exact v_leq rfl rfl) ?_
  intro b17 hb17
  refine x_bool rfl rfl rfl (v_and rfl rfl) ?_
  intro b18 hb18
  refine x_end ?_
  refine t_norm ?_
  refine w_cond rfl (fun hc18 => ?_) (fun hc18 => ?_)
  · simp only [hb18, hb17, hb13, decide_eq_true_eq, decide_eq_false_iff_not, Bool.and_eq_true, Bool.or_eq_true, Bool.and_eq_false_iff, Bool.or_eq_false_iff, Bool.not_eq_true', Bool.not_eq_false', ne_eq, Decidable.not_not] at hc18
    have hkc : k < min 1000 ((l.length - 3) / 4) := by omega
    refine w_skip ?_
    refine t_norm ?_
    refine w_seq ?_
    refine w_block ?_
    refine rg_text ?_
    refine x_val rfl rfl rfl (v_move rfl) ?_
    refine x_val rfl rfl rfl (v_move rfl) ?_
    refine x_val rfl rfl rfl (v_move rfl) ?_
    refine x_callv rfl rfl rfl Tryz.func40 (by kernel_rfl) rfl (fun w1 hw1 => c_text (4 * k + 2) 2 0 w1 (hl.keep (Kept.later (hw1.base (by simp))))) ?_
    refine x_callv rfl rfl rfl Tryz.func41 (by kernel_rfl) rfl (fun w1 hw1 => c_erec (txt l (4 * k + 2) 2 0) w1 (txt_sz hbig (4 * k + 2) 2 0) (hL.later (hw1.base (by simp)))) ?_
    refine x_val rfl rfl rfl (v_move rfl) ?_
    refine x_val rfl rfl rfl (v_move rfl) ?_
    refine x_val rfl rfl rfl (v_addi (c := ((4 * k + 3 : Nat) : Int)) rfl rfl (by omega) (by omega)) ?_
    refine x_callv rfl rfl rfl Tryz.func40 (by kernel_rfl) rfl (fun w1 hw1 => c_text (4 * k + 3) 0 1 w1 (hl.keep (Kept.later (hw1.base (by simp))))) ?_
    refine x_callv rfl rfl rfl Tryz.func39 (by kernel_rfl) rfl (fun w1 hw1 => c_read (txt l (4 * k + 3) 0 1) w1 (Nat.le_trans (txt_sz hbig (4 * k + 3) 0 1) (by decide)) (hL.later (hw1.base (by simp)))) ?_
    refine x_val rfl rfl rfl (v_move rfl) ?_
    refine x_val rfl rfl rfl (v_move rfl) ?_
    refine x_val rfl rfl rfl (v_addi (c := ((4 * k + 4 : Nat) : Int)) rfl rfl (by omega) (by omega)) ?_
    refine x_callv rfl rfl rfl Tryz.func40 (by kernel_rfl) rfl (fun w1 hw1 => c_text (4 * k + 4) 0 1 w1 (hl.keep (Kept.later (hw1.base (by simp))))) ?_
    refine x_callv rfl rfl rfl Tryz.func39 (by kernel_rfl) rfl (fun w1 hw1 => c_read (txt l (4 * k + 4) 0 1) w1 (Nat.le_trans (txt_sz hbig (4 * k + 4) 0 1) (by decide)) (hL.later (hw1.base (by simp)))) ?_
    refine x_val rfl rfl rfl (v_move rfl) ?_
    refine x_val rfl rfl rfl (v_move rfl) ?_
    refine x_val rfl rfl rfl (v_addi (c := ((4 * k + 5 : Nat) : Int)) rfl rfl (by omega) (by omega)) ?_
    refine x_callv rfl rfl rfl Tryz.func40 (by kernel_rfl) rfl (fun w1 hw1 => c_text (4 * k + 5) 0 1 w1 (hl.keep (Kept.later (hw1.base (by simp))))) ?_
    refine x_callv rfl rfl rfl Tryz.func39 (by kernel_rfl) rfl (fun w1 hw1 => c_read (txt l (4 * k + 5) 0 1) w1 (Nat.le_trans (txt_sz hbig (4 * k + 5) 0 1) (by decide)) (hL.later (hw1.base (by simp)))) ?_
    refine x_val rfl rfl rfl (v_buildL (places := [(0, 1), (1, 1), (2, 2), (4, 1), (5, 1), (6, 1), (7, 1), (8, 1)]) Tryz.underlying25 zr25 (by kernel_rfl) rfl rfl) ?_
    refine x_buildSliceL (cs := (lineE l k).cells) rfl rfl rfl Tryz.underlying28 sz25 zr25 rfl rfl rfl ?_
    intro p42
    obtain ⟨css, hcl, hrow, hrd⟩ := hT
    rw [hln] at hcl hrow
    refine x_append (e := 25) [(p42, Obj.cells (lineE l k).cells.toArray 25)] (l2 := []) R (len := k) (xs := css.flatten) rfl rfl rfl rfl (by rw [List.append_nil]; rfl) hrow Tryz.underlying28 ap25 rfl rfl (m := 1) (news := (lineE l k).cells) (fun i hi => at_ownL (vs := (lineE l k).cells) (.head _) (by rw [Nat.zero_add]; exact List.getElem?_eq_getElem hi)) rfl (by simp only [maxLen]; omega) (by omega) ?_
    intro R' hR'
    refine x_val rfl rfl rfl (v_assign rfl) ?_
    refine x_end ?_
    refine b_norm ?_
    refine t_norm ?_
    refine rg_text ?_
    refine x_val rfl rfl rfl (v_move rfl) ?_
    refine x_val rfl rfl rfl (v_addi (c := ((4 * k + 6 : Nat) : Int)) rfl rfl (by omega) (by omega)) ?_
    refine x_val rfl rfl rfl (v_assign rfl) ?_
    refine x_end ?_
    rw [List.append_nil]
    exact l_norm (x := (k, R)) (μ := fun q : Nat × RowS => min 1000 ((l.length - 3) / 4) - q.1) (k + 1, R') ⟨by dsimp only; omega, by dsimp only; rw [range_snoc]; exact snocN hln hcl hrd hR' ⟨rfl, lineE_okA l k⟩⟩ (by simp only; omega) (by dsimp only; rw [show 4 * (k + 1) + 2 = 4 * k + 6 by omega]; repeat (first | exact Sub.nil | refine Sub.cons rfl ?_)) (fun w1 h => h.less (List.sublist_append_right _ _) (fun _ h => h))
  · simp only [hb18, hb17, hb13, decide_eq_true_eq, decide_eq_false_iff_not, Bool.and_eq_true, Bool.or_eq_true, Bool.and_eq_false_iff, Bool.or_eq_false_iff, Bool.not_eq_true', Bool.not_eq_false', ne_eq, Decidable.not_not] at hc18
    obtain rfl : k = min 1000 ((l.length - 3) / 4) := by omega
    refine w_exit ?_
    refine t_exit ?_
    refine t_exit ?_
    refine b_hit ?_
    refine t_norm ?_
    refine w_seq ?_
    refine rg_text ?_
    refine x_val rfl rfl rfl (v_move rfl) ?_
    refine x_call (R := fun v wa wb => ∃ A1 c1, v = .slice A1 (invR (linesE l)).length c1 ∧ sliceRd tySeg (fun b => wa.heap.size ≤ b) wb (.slice A1 (invR (linesE l)).length c1) (invR (linesE l)) ∧ A1.isNone = decide ((invR (linesE l)).length = 0)) rfl rfl rfl Tryz.func16 (by kernel_rfl) rfl (fun w1 hw1 => (c_Invoice (ls := linesE l) w1 (hT.any (D' := fun _ => True) (e := 25) hw1 (fun q hq => hq) (fun _ _ => trivial) (by simp)) (hL.later (hw1.base (by simp)))).mono fun e w2 ⟨v, h1, h2, h3, h4⟩ => ord_out h1 h2 h3 h4) ?_
    intro v45 wa45 wb45 hm45 hl45 hR45
    obtain ⟨A1, c1, rfl, hr45, hn45⟩ := hR45
    refine x_val rfl rfl rfl (v_assign rfl) ?_
    refine x_end ?_
    refine t_norm ?_
    refine w_seq ?_
    refine w_seq ?_
    refine rg_text ?_
    refine x_val rfl rfl rfl (v_move rfl) ?_
    refine x_bool rfl rfl rfl (v_sliceNil Tryz.underlying29 rfl) ?_
    intro b47 hb47
    refine x_val rfl rfl rfl (v_move rfl) ?_
    refine x_if [] rfl rfl rfl rfl rfl (fun hg => by obtain ⟨hg0, _⟩ := hg; subst hg0; (try simp only [List.cons_append, List.nil_append, gvl_nil, gvl_t, gvl_f]); exact v_move rfl) ?_
    refine x_if [] rfl rfl rfl rfl rfl (fun hg => by obtain ⟨hg0, _⟩ := hg; subst hg0; (try simp only [List.cons_append, List.nil_append, gvl_nil, gvl_t, gvl_f]); exact v_len_slice Tryz.underlying29 rfl) ?_
    refine x_if [] rfl rfl rfl rfl rfl (fun hg => by obtain ⟨hg0, _⟩ := hg; subst hg0; (try simp only [List.cons_append, List.nil_append, gvl_nil, gvl_t, gvl_f]); exact v_move rfl) ?_
    refine x_if [] rfl rfl rfl rfl rfl (fun hg => by obtain ⟨hg0, _⟩ := hg; subst hg0; (try simp only [List.cons_append, List.nil_append, gvl_nil, gvl_t, gvl_f]); exact v_len_slice Tryz.underlying29 rfl) ?_
    refine x_ifb [] rfl rfl rfl rfl rfl (fun hg => by obtain ⟨hg0, _⟩ := hg; subst hg0; (try simp only [List.cons_append, List.nil_append, gvl_nil, gvl_t, gvl_f]); exact v_neq rfl rfl) ?_
    intro b53 hb53
    refine x_bool rfl rfl rfl (v_or rfl rfl) ?_
    intro b54 hb54
    refine x_end ?_
    refine t_norm ?_
    refine w_cond rfl (fun hc54 => ?_) (fun hc54 => ?_)
    · have hno : ¬(payP (linesE l) ∧ (invR (linesE l)).length = l.length) := fun ⟨q1, q2⟩ => by
        rw [hb54, hb53, hb47, hn45, q2] at hc54
        have q3 := invR_len (linesE l)
        rw [if_pos q1, q2] at q3
        simp at hc54
        rw [hc54] at q3
        simp at q3
      refine w_seq ?_
      refine rg_text ?_
      refine x_val rfl rfl rfl (v_assign rfl) ?_
      refine x_val rfl rfl rfl (v_assign rfl) ?_
      refine x_end ?_
      refine t_norm ?_
      refine w_ret ?_
      refine t_ret ?_
      refine ret2 rfl rfl rfl (fun w' hm => ?_)
      rw [show rdI l = ([], 11) from by unfold rdI; rw [if_neg hno]]
      exact ⟨_, rfl, hm.base (by simp), sliceRd_nil⟩
    · have hyes : (invR (linesE l)).length = l.length ∧ (invR (linesE l)).length ≠ 0 := by
        rw [hb54, hb53, hb47, hn45] at hc54
        simp only [Bool.or_eq_false_iff, decide_eq_false_iff_not, ne_eq, Decidable.not_not] at hc54
        exact ⟨by omega, hc54.1⟩
      obtain ⟨hle, hl0⟩ := hyes
      have hpay : payP (linesE l) := by
        apply Classical.byContradiction; intro q; apply hl0; rw [invR_len, if_neg q]
      obtain ⟨p1, p2, p3⟩ := id hpay
      have hl5 : l.length = 4 * (linesE l).length + 5 := by rw [← hle, invR_len, if_pos hpay]
      refine w_skip ?_
      refine t_norm ?_
      refine w_seq ?_
      refine rg_text ?_
      refine x_val rfl rfl rfl (v_move rfl) ?_
      refine x_val rfl rfl rfl (v_move rfl) ?_
      refine x_val rfl rfl rfl (v_len_slice Tryz.underlying29 rfl) ?_
      refine x_val rfl rfl rfl (v_subi (c := ((l.length - 2 : Nat) : Int)) rfl rfl (by omega) (by omega)) ?_
      refine x_callv rfl rfl rfl Tryz.func40 (by kernel_rfl) rfl (fun w1 hw1 => show Calls _ _ _ w1 (fun e w2 => e = .returned (.string (totE l)) ∧ Later w1 w2) from c_text (l.length - 2) 0 1 w1 (hl.keep (Kept.later (hw1.base (by simp))))) ?_
      refine x_val rfl rfl rfl (v_assign rfl) ?_
      refine x_end ?_
      refine t_norm ?_
      refine w_seq ?_
      refine w_seq ?_
      refine rg_text ?_
      refine x_val rfl rfl rfl (v_move rfl) ?_
      refine x_callv rfl rfl rfl Tryz.func39 (by kernel_rfl) rfl (fun w1 hw1 => c_read (totE l) w1 (Nat.le_trans (txt_sz hbig (l.length - 2) 0 1) (by decide)) (hL.later (hw1.base (by simp)))) ?_
      refine x_val rfl rfl rfl (v_assign rfl) ?_
      refine x_end ?_
      refine t_norm ?_
      refine w_block ?_
      refine w_seq ?_
      refine rg_text ?_
      refine x_val rfl rfl rfl (v_move rfl) ?_
      refine x_val rfl rfl rfl (v_move rfl) ?_
      refine x_callb rfl rfl rfl Tryz.func42 (by kernel_rfl) rfl (fun w1 hw1 => c_same (xs := invR (linesE l)) (ys := l) w1 (keep_new hr45 hw1 (by simp) hm45) (hl.keep (Kept.later (hw1.base (by simp))))) ?_
      intro b65 hb65
      refine x_val rfl rfl rfl (v_assign rfl) ?_
      refine x_end ?_
      refine t_norm ?_
      refine w_cond rfl (fun hc62 => ?_) (fun hc62 => ?_)
      · have hsame : invR (linesE l) = l := by rw [hb65] at hc62; simpa using hc62
        refine w_seq ?_
        refine rg_text ?_
        refine x_val rfl rfl rfl (v_move rfl) ?_
        refine x_val rfl rfl rfl (v_assign rfl) ?_
        refine x_val rfl rfl rfl (v_assign rfl) ?_
        refine x_end ?_
        refine t_norm ?_
        refine w_ret ?_
        refine b_ret ?_
        refine t_ret ?_
        refine ret2 rfl rfl rfl (fun w' hm => ?_)
        rw [show rdI l = (linesE l, 0) from by unfold rdI; rw [if_pos ⟨hpay, hle⟩, if_pos hsame]]
        exact ⟨_, rfl, hm.base (by simp), (hT.any (e := 25) hm (fun q hq => hq) (fun q hq => hm.newer (by simp) hq) (by simp))⟩
      · have hdiff : ¬invR (linesE l) = l := by rw [hb65] at hc62; simpa using hc62
        refine w_seq ?_
        refine rg_text ?_
        refine x_val rfl rfl rfl (v_move rfl) ?_
        refine x_bool rfl rfl rfl (v_geq rfl rfl) ?_
        intro b69 hb69
        refine x_val rfl rfl rfl (v_move rfl) ?_
        refine x_if [] rfl rfl rfl rfl rfl (fun hg => by obtain ⟨hg0, _⟩ := hg; subst hg0; (try simp only [List.cons_append, List.nil_append, gvl_nil, gvl_t, gvl_f]); exact v_move rfl) ?_
        refine x_call_if [] rfl rfl rfl rfl rfl Tryz.func32 (by kernel_rfl) (fun hg => by obtain ⟨hg0, _⟩ := hg; subst hg0; (try simp only [List.cons_append, List.nil_append, gvl_nil, gvl_t, gvl_f]); refine ⟨_, rfl, ?_⟩; exact fun w1 hw1 => c_number (readP (totE l)) w1 (readP_in _) (hL.later (hw1.base (by simp)))) ?_
        refine x_if [] rfl rfl rfl rfl rfl (fun hg => by obtain ⟨hg0, _⟩ := hg; subst hg0; (try simp only [List.cons_append, List.nil_append, gvl_nil, gvl_t, gvl_f]); exact v_move rfl) ?_
        refine x_ifb [] rfl rfl rfl rfl rfl (fun hg => by obtain ⟨hg0, _⟩ := hg; subst hg0; (try simp only [List.cons_append, List.nil_append, gvl_nil, gvl_t, gvl_f]); exact v_seql rfl rfl) ?_
        intro b74 hb74
        refine x_bool rfl rfl rfl (v_and rfl rfl) ?_
        intro b75 hb75
        obtain rfl : b75 = false := by
              rw [hb75, hb74, hb69]
              rw [← Bool.not_eq_true]
              simpa using hC
        refine x_val rfl rfl rfl (v_move rfl) ?_
        refine x_no rfl rfl rfl rfl rfl ?_
        refine x_no rfl rfl rfl rfl rfl ?_
        refine x_no rfl rfl rfl rfl rfl ?_
        refine x_no rfl rfl rfl rfl rfl ?_
        refine x_no rfl rfl rfl rfl rfl ?_
        refine x_val (v := .bool false) rfl rfl rfl (v_pick (b := false) rfl rfl) ?_
        refine x_val rfl rfl rfl (v_assign rfl) ?_
        refine x_end ?_
        refine t_norm ?_
        refine w_cond rfl (fun hc67 => ?_) (fun hc67 => ?_)
        · cases hc67
        · skip
          refine w_skip ?_
          refine b_norm ?_
          refine t_norm ?_
          refine w_seq ?_
          refine rg_text ?_
          refine x_val rfl rfl rfl (v_assign rfl) ?_
          refine x_val rfl rfl rfl (v_assign rfl) ?_
          refine x_end ?_
          refine t_norm ?_
          refine w_ret ?_
          refine ret2 rfl rfl rfl (fun w' hm => ?_)
          rw [show rdI l = ([], 11) from by unfold rdI; rw [if_pos ⟨hpay, hle⟩, if_neg hdiff, if_neg (fun q => hC ⟨q.1, q.2.1⟩)]]
          exact ⟨_, rfl, hm.base (by simp), sliceRd_nil⟩
theorem c_ReadInvoice {v : Value} {l : List Seg} {D : Nat → Prop} (w : World) (hl : sliceRd tySeg D w v l) (hbig : bigO l) (hL : LD w) : Calls Tryz.prog 18 #[v] w fun e w' => ∃ q, e = .returned (.tuple #[q, .int .i64 (rdI l).2]) ∧ Later w w' ∧ sliceRd tyOrd (fun b => w.heap.size ≤ b) w' q (rdI l).1 := by
  by_cases hC : 0 ≤ readP (totE l) ∧ itoaS (readP (totE l)) = totE l
  · exact c_RdIA w hl hbig hL hC
  · exact c_RdIB w hl hbig hL hC

end Go.Proofs.YtbamklefagghcaaGreatDoor

namespace Go.Proofs.YtbamklefagghcaaGreatDoor
open Go.RowKit Go.PK
set_option linter.unusedVariables false
set_option linter.unusedSimpArgs false
end Go.Proofs.YtbamklefagghcaaGreatDoor

namespace Go.Proofs.YtbamklefagghcaaGreatDoor
open Go.RowKit Go.PK
set_option linter.unusedVariables false
set_option linter.unusedSimpArgs false
set_option maxRecDepth 100000 in
theorem c_cutO {v : Value} {ls : List PK.Ord} {D : Nat → Prop} (w : World) (hls : sliceRd tyOrd D w v ls) (m : Nat) (hm9 : m ≤ 1000) :
    Calls Tryz.prog 15 #[v, .int .i64 (m : Nat)] w fun e w' => ∃ R, e = .returned (rowV R (cutP ls m).length) ∧ Mem w' (rowO 25 R) [(w, fun _ => True)] ∧ RowT tyOrd (fun _ => False) w R (cutP ls m) := by
  obtain ⟨A, cp, rfl, hlc, hmx, _⟩ := id hls
  refine enter (vs := [Value.slice A ls.length cp, .int .i64 (m : Nat)]) Tryz.func15 rfl Tryz.ntmps15 rfl ?_
  refine w_seq ?_
  refine rg_text ?_
  refine x_val rfl rfl rfl (v_assign rfl) ?_
  refine x_end ?_
  refine t_norm ?_
  refine w_seq ?_
  refine rg_text ?_
  refine x_val rfl rfl rfl (v_assign rfl) ?_
  refine x_end ?_
  refine t_norm ?_
  refine w_seq ?_
  refine w_seq ?_
  refine rg_text ?_
  refine x_val rfl rfl rfl (v_move rfl) ?_
  refine x_val rfl rfl rfl (v_move rfl) ?_
  refine x_val rfl rfl rfl (v_len_slice Tryz.underlying28 rfl) ?_
  refine x_val rfl rfl rfl (v_move rfl) ?_
  refine x_val (v := Value.int .i64 (((min ls.length m) : Nat) : Int)) rfl rfl rfl (by rw [show (((min ls.length m) : Nat) : Int) = min (ls.length : Int) (m : Int) by omega]; exact v_min rfl rfl) ?_
  refine x_val rfl rfl rfl (v_scut_to (j := (min ls.length m)) Tryz.underlying28 sz25 rfl rfl (by omega)) ?_
  refine x_val rfl rfl rfl (v_len_slice Tryz.underlying28 rfl) ?_
  refine x_val rfl rfl rfl (v_move rfl) ?_
  refine x_end ?_
  refine t_norm ?_
  refine w_block ?_
  obtain ⟨ts, hts⟩ : ∃ ts, ls.take (min ls.length m) = ts := ⟨_, rfl⟩
  have hml : ts.length = (min ls.length m) := by rw [← hts, List.length_take]; omega
  have htr := hls.take (min ls.length m) (Nat.min_le_left _ _)
  rw [hts, ← hml] at htr
  rw [← hml]
  have htm : ts.length ≤ 9223372036854775807 := by omega
  refine w_loop (σ := Nat × RowS) (fun x => x.1 ≤ ts.length ∧ RowT tyOrd (fun _ => False) w x.2 ((ts.take x.1).map smallI)) (fun x => [(13, Value.slice A ts.length cp), (14, Value.int .i64 (ts.length : Nat)), (5, rowV x.2 x.1), (15, Value.int .i64 (x.1 : Nat))]) (fun x => rowO 25 x.2) (fun x => [(w, fun _ => True)]) (fun x => ts.length - x.1) ((0, none)) (⟨Nat.zero_le _, RowT.nil⟩) (l_start (by repeat (first | exact Sub.nil | refine Sub.cons rfl ?_)) (fun _ h => h)) ?_
  rintro ⟨k, R⟩ ⟨hk, hT⟩
  refine w_state ([(13, Value.slice A ts.length cp), (14, Value.int .i64 (ts.length : Nat)), (5, rowV R k), (15, Value.int .i64 (k : Nat))]) (rowO 25 R) ([(w, fun _ => True)]) ?_
  dsimp only at hk hT
  have hln : ((ts.take k).map smallI).length = k := by simp; omega
  refine w_seq ?_
  refine rg_text ?_
  refine x_bool rfl rfl rfl (v_lss rfl rfl) ?_
  intro b16 hb16
  refine x_end ?_
  refine t_norm ?_
  refine w_seq ?_
  refine w_cond rfl (fun hc16 => ?_) (fun hc16 => ?_)
  · simp only [hb16, decide_eq_true_eq, decide_eq_false_iff_not, Bool.and_eq_true, Bool.or_eq_true, Bool.and_eq_false_iff, Bool.or_eq_false_iff, Bool.not_eq_true', Bool.not_eq_false', ne_eq, Decidable.not_not] at hc16
    have hkl : k < ts.length := by omega
    obtain ⟨ob, oo, hA, _, hc, hoA⟩ := ord_at htr hkl
    obtain ⟨⟨i1, _, i3, i4, i5, i6⟩, _⟩ := id hoA
    refine w_skip ?_
    refine t_norm ?_
    refine w_seq ?_
    refine w_block ?_
    refine w_seq ?_
    refine rg_text ?_
    refine x_val rfl rfl rfl (v_indexAddr Tryz.underlying28 sz25 (congrArg (fun A => some (Value.slice A ts.length cp)) hA) rfl (hkl) rfl) ?_
    refine x_val rfl rfl rfl (v_loadN (vs := ts[k].cells) Tryz.underlying25 rfl sz25 rfl (fun j hj => at_ro (.head _) trivial (hc j hj))) ?_
    refine x_alloc rfl rfl rfl zr25 ?_
    intro p7
    refine x_store0 [] rfl rfl rfl rfl sz25 rfl rfl ?_
    refine x_end ?_
    refine t_norm ?_
    refine rg_draw 23 [(true, 0), (true, 1), (true, 2), (true, 3), (true, 4), (true, 5), (true, 6), (true, 7), (true, 8), (true, 9), (true, 10), (true, 11), (true, 12), (true, 13), (true, 14), (true, 15), (true, 16), (true, 17), (true, 18), (true, 19), (true, 20), (true, 21), (false, 22)] (by kernel_rfl) (by kernel_rfl) ?_
    refine x_val rfl rfl rfl (v_move rfl) ?_
    refine x_val rfl rfl rfl (v_fieldAddr (off' := 0) Tryz.underlying25 rfl sz3 (by decide) rfl rfl) ?_
    refine x_val rfl rfl rfl (v_load Tryz.underlying3 rfl rfl (at_ownL (vs := ts[k].cells) (by repeat (first | exact List.Mem.head _ | apply List.Mem.tail)) rfl)) ?_
    refine x_callv rfl rfl rfl Tryz.func10 (by kernel_rfl) rfl (fun w1 hw1 => c_Mod ts[k].id 999999999 w1 i1 (by decide)) ?_
    refine x_val rfl rfl rfl (v_addi (c := 1 + ts[k].id % 999999999) rfl rfl rfl (by omega)) ?_
    refine x_val rfl rfl rfl (v_fieldAddr (off' := 2) Tryz.underlying25 rfl sz23 (by decide) rfl rfl) ?_
    refine x_val rfl rfl rfl (v_fieldAddr (off' := 2) Tryz.underlying23 rfl sz3 (by decide) rfl rfl) ?_
    refine x_val rfl rfl rfl (v_load Tryz.underlying3 rfl rfl (at_ownL (vs := ts[k].cells) (by repeat (first | exact List.Mem.head _ | apply List.Mem.tail)) rfl)) ?_
    refine x_callv rfl rfl rfl Tryz.func10 (by kernel_rfl) rfl (fun w1 hw1 => c_Mod ts[k].src 1000000000 w1 i3 (by decide)) ?_
    refine x_val rfl rfl rfl (v_fieldAddr (off' := 2) Tryz.underlying25 rfl sz23 (by decide) rfl rfl) ?_
    refine x_val rfl rfl rfl (v_fieldAddr (off' := 3) Tryz.underlying23 rfl sz3 (by decide) rfl rfl) ?_
    refine x_val rfl rfl rfl (v_load Tryz.underlying3 rfl rfl (at_ownL (vs := ts[k].cells) (by repeat (first | exact List.Mem.head _ | apply List.Mem.tail)) rfl)) ?_
    refine x_callv rfl rfl rfl Tryz.func10 (by kernel_rfl) rfl (fun w1 hw1 => c_Mod ts[k].num 1000000000 w1 i4 (by decide)) ?_
    refine x_val rfl rfl rfl (v_buildL (places := [(0, 1), (1, 1)]) Tryz.underlying23 zr23 (by kernel_rfl) rfl rfl) ?_
    refine x_val rfl rfl rfl (v_fieldAddr (off' := 4) Tryz.underlying25 rfl sz3 (by decide) rfl rfl) ?_
    refine x_val rfl rfl rfl (v_load Tryz.underlying3 rfl rfl (at_ownL (vs := ts[k].cells) (by repeat (first | exact List.Mem.head _ | apply List.Mem.tail)) rfl)) ?_
    refine x_callv rfl rfl rfl Tryz.func10 (by kernel_rfl) rfl (fun w1 hw1 => c_Mod ts[k].copies 9999 w1 i5 (by decide)) ?_
    refine x_val rfl rfl rfl (v_addi (c := 1 + ts[k].copies % 9999) rfl rfl rfl (by omega)) ?_
    refine x_val rfl rfl rfl (v_fieldAddr (off' := 5) Tryz.underlying25 rfl sz3 (by decide) rfl rfl) ?_
    refine x_val rfl rfl rfl (v_load Tryz.underlying3 rfl rfl (at_ownL (vs := ts[k].cells) (by repeat (first | exact List.Mem.head _ | apply List.Mem.tail)) rfl)) ?_
    refine x_callv rfl rfl rfl Tryz.func10 (by kernel_rfl) rfl (fun w1 hw1 => c_Mod ts[k].price 1000000000 w1 i6 (by decide)) ?_
    refine x_val rfl rfl rfl (v_buildL (places := [(0, 1), (1, 1), (2, 2), (4, 1), (5, 1), (6, 1), (7, 1), (8, 1)]) Tryz.underlying25 zr25 (by kernel_rfl) rfl rfl) ?_
    refine x_buildSliceL (cs := (smallI ts[k]).cells) rfl rfl rfl Tryz.underlying28 sz25 zr25 rfl rfl rfl ?_
    intro p41
    obtain ⟨css, hcl, hrow, hrd⟩ := hT
    rw [hln] at hcl hrow
    refine x_append (e := 25) [(p41, Obj.cells (smallI ts[k]).cells.toArray 25), (p7, Obj.cells ts[k].cells.toArray 25)] (l2 := []) R (len := k) (xs := css.flatten) rfl rfl rfl rfl (by rw [List.append_nil]; rfl) hrow Tryz.underlying28 ap25 rfl rfl (m := 1) (news := (smallI ts[k]).cells) (fun i hi => at_ownL (vs := (smallI ts[k]).cells) (.head _) (by rw [Nat.zero_add]; exact List.getElem?_eq_getElem hi)) rfl (by simp only [maxLen]; omega) (by omega) ?_
    intro R' hR'
    refine x_val rfl rfl rfl (v_assign rfl) ?_
    refine x_end ?_
    refine b_norm ?_
    refine t_norm ?_
    refine rg_text ?_
    refine x_val rfl rfl rfl (v_addi rfl rfl rfl (by first | omega | (dsimp only; omega))) ?_
    refine x_val rfl rfl rfl (v_move rfl) ?_
    refine x_end ?_
    rw [List.append_nil]
    exact l_norm (x := (k, R)) (μ := fun q : Nat × RowS => ts.length - q.1) (k + 1, R') ⟨by dsimp only; omega, by dsimp only; rw [take_snoc hkl, List.map_append]; exact snocN hln hcl hrd hR' ⟨rfl, smallI_okA _⟩⟩ (by simp only; omega) (by repeat (first | exact Sub.nil | refine Sub.cons rfl ?_)) (fun w1 h => h.less (List.sublist_append_right _ _) (fun _ h => h))
  · simp only [hb16, decide_eq_true_eq, decide_eq_false_iff_not, Bool.and_eq_true, Bool.or_eq_true, Bool.and_eq_false_iff, Bool.or_eq_false_iff, Bool.not_eq_true', Bool.not_eq_false', ne_eq, Decidable.not_not] at hc16
    obtain rfl : k = ts.length := by omega
    rw [List.take_length] at hT
    refine w_exit ?_
    refine t_exit ?_
    refine t_exit ?_
    refine b_hit ?_
    refine t_norm ?_
    refine w_seq ?_
    refine rg_text ?_
    refine x_val rfl rfl rfl (v_move rfl) ?_
    refine x_val rfl rfl rfl (v_assign rfl) ?_
    refine x_end ?_
    refine t_norm ?_
    refine w_ret ?_
    refine ret1 rfl rfl (fun w' hm => ⟨R, ?_, hm.less (.refl _) (fun q hq => by simp at hq ⊢; simp [hq]), ?_⟩)
    · rw [cutP_len, ← hml]
    · unfold cutP; rw [hts]; exact hT

end Go.Proofs.YtbamklefagghcaaGreatDoor

namespace Go.Proofs.YtbamklefagghcaaGreatDoor
open Go.RowKit Go.PK
set_option linter.unusedVariables false
set_option linter.unusedSimpArgs false
set_option maxRecDepth 100000 in
theorem c_bent {v : Value} {l : List Seg} {D : Nat → Prop} (q0 q1 q2 q3 : Int) (t : ByteArray) (w : World) (hl : sliceRd tySeg D w v l) (hbig : bigO l) (hfew : fewS l) (ht : t.size ≤ 2000000000) (hq : in64 q0 ∧ in64 q1 ∧ in64 q2 ∧ in64 q3) :
    Calls Tryz.prog 26 #[v, .agg [Value.int .i64 q0, .int .i64 q1, .int .i64 q2, .int .i64 q3].toArray, .string t] w fun e w' => ∃ q xs, e = .returned q ∧ Later w w' ∧ sliceRd tySeg (fun b => w.heap.size ≤ b) w' q xs ∧ bigO xs := by
  obtain ⟨A, cp, rfl, hlc, hmx, _⟩ := id hl
  refine enter (vs := [.slice A l.length cp, .agg [Value.int .i64 q0, .int .i64 q1, .int .i64 q2, .int .i64 q3].toArray, .string t]) Tryz.func26 rfl Tryz.ntmps26 rfl ?_
  refine w_seq ?_
  refine rg_text ?_
  refine x_box rfl rfl rfl rfl ?_
  intro p4
  refine x_val rfl rfl rfl (v_assign rfl) ?_
  refine x_end ?_
  refine t_norm ?_
  refine w_seq ?_
  refine rg_text ?_
  refine x_val rfl rfl rfl (v_assign rfl) ?_
  refine x_end ?_
  refine t_norm ?_
  refine w_seq ?_
  refine w_seq ?_
  refine rg_text ?_
  refine x_val rfl rfl rfl (v_move rfl) ?_
  refine x_val rfl rfl rfl (v_len_slice Tryz.underlying29 rfl) ?_
  refine x_val rfl rfl rfl (v_move rfl) ?_
  refine x_end ?_
  refine t_norm ?_
  refine w_block ?_
  refine w_loop (σ := Nat × RowS × List Sgr) (fun x => x.1 ≤ l.length ∧ x.2.2.length = x.1 ∧ SgsOK x.2.1 x.2.2 ∧ ∀ s ∈ x.2.2, s.xs.length ≤ 100 ∧ ∀ y ∈ s.xs, y.length ≤ 100) (fun x => [(2, Value.string t), (4, Value.pointer (some ⟨p4, 0, none⟩)), (7, rowV x.2.1 x.1), (17, Value.slice A l.length cp), (18, Value.int .i64 (l.length : Nat)), (19, Value.int .i64 (x.1 : Nat))]) (fun x => sgO 54 9 x.2.2 ++ (rowO 49 x.2.1 ++ [(p4, Obj.cells [Value.int .i64 q0, .int .i64 q1, .int .i64 q2, .int .i64 q3].toArray 60)])) (fun x => [(w, fun _ => True)]) (fun x => l.length - x.1) ((0, none, [])) (⟨Nat.zero_le _, rfl, SgsOK.nil, fun s hs => by cases hs⟩) (l_start (by repeat (first | exact Sub.nil | refine Sub.cons rfl ?_)) (fun _ h => h)) ?_
  rintro ⟨k, R, G⟩ ⟨hk, hGl, hG, hF⟩
  refine w_state ([(2, Value.string t), (4, Value.pointer (some ⟨p4, 0, none⟩)), (7, rowV R k), (17, Value.slice A l.length cp), (18, Value.int .i64 (l.length : Nat)), (19, Value.int .i64 (k : Nat))]) (sgO 54 9 G ++ (rowO 49 R ++ [(p4, Obj.cells [Value.int .i64 q0, .int .i64 q1, .int .i64 q2, .int .i64 q3].toArray 60)])) ([(w, fun _ => True)]) ?_
  dsimp only at hk hGl hG hF
  refine w_seq ?_
  refine rg_text ?_
  refine x_bool rfl rfl rfl (v_lss rfl rfl) ?_
  intro b20 hb20
  refine x_end ?_
  refine t_norm ?_
  refine w_seq ?_
  refine w_cond rfl (fun hc20 => ?_) (fun hc20 => ?_)
  · simp only [hb20, decide_eq_true_eq, decide_eq_false_iff_not, Bool.and_eq_true, Bool.or_eq_true, Bool.and_eq_false_iff, Bool.or_eq_false_iff, Bool.not_eq_true', Bool.not_eq_false', ne_eq, Decidable.not_not] at hc20
    have hkl : k < l.length := by omega
    obtain ⟨sb, so, sv, hA0, hD0, hc1, hc2, htok, hels⟩ := seg_at hl hkl
    obtain ⟨eA, ec, rfl, _⟩ := id hels
    obtain ⟨hfe, hfy⟩ := hfew.2 l[k] (List.getElem_mem hkl)
    have hbe := hbig l[k] (List.getElem_mem hkl)
    refine w_skip ?_
    refine t_norm ?_
    refine w_seq ?_
    refine w_block ?_
    refine w_seq ?_
    refine rg_text ?_
    refine x_val rfl rfl rfl (v_indexAddr Tryz.underlying29 sz49 (congrArg (fun A => some (Value.slice A l.length cp)) hA0) rfl (hkl) rfl) ?_
    refine x_val rfl rfl rfl (v_loadN (vs := [Value.string l[k].tag, Value.slice eA l[k].els.length ec]) Tryz.underlying49 rfl sz49 rfl (fun i hi => at_ro (.head _) trivial (by match i, hi with | 0, _ => exact hc1 | 1, _ => exact hc2))) ?_
    refine x_alloc rfl rfl rfl zr49 ?_
    intro p9
    refine x_store0 [] rfl rfl rfl rfl sz49 rfl rfl ?_
    refine x_end ?_
    refine t_norm ?_
    refine w_seq ?_
    refine rg_text ?_
    refine x_val rfl rfl rfl (v_fieldAddr (off' := 0) Tryz.underlying49 rfl sz9 (by decide) rfl rfl) ?_
    refine x_val rfl rfl rfl (v_load Tryz.underlying9 rfl rfl (by first | exact at_ownL (.head _) rfl | exact at_ownL (.tail _ (.head _)) rfl | exact at_ownL (.tail _ (.tail _ (.head _))) rfl | (apply at_ownL; ((repeat (first | exact List.Mem.head _ | apply List.Mem.tail | apply List.mem_append_right))); rfl) | (refine at_ro (by first | exact .head _ | exact .tail _ (.head _) | exact .tail _ (.tail _ (.head _)) | simp) ?_ (by assumption); trivial))) ?_
    refine x_val (v := Value.agg #[Value.string l[k].tag, .slice none 0 0]) rfl rfl rfl (v_buildL (cs := [Value.string l[k].tag, .slice none 0 0]) (places := [(0, 1), (1, 1)]) Tryz.underlying49 zr49 (by kernel_rfl) rfl rfl) ?_
    refine x_alloc rfl rfl rfl zr49 ?_
    intro p10
    refine x_store0 [] rfl rfl rfl rfl sz49 rfl rfl ?_
    refine x_end ?_
    refine t_norm ?_
    refine w_seq ?_
    refine w_seq ?_
    refine rg_text ?_
    refine x_val rfl rfl rfl (v_fieldAddr (off' := 1) Tryz.underlying49 rfl sz47 (by decide) rfl rfl) ?_
    refine x_val rfl rfl rfl (v_load Tryz.underlying47 rfl rfl (by first | exact at_ownL (.head _) rfl | exact at_ownL (.tail _ (.head _)) rfl | exact at_ownL (.tail _ (.tail _ (.head _))) rfl | (apply at_ownL; ((repeat (first | exact List.Mem.head _ | apply List.Mem.tail | apply List.mem_append_right))); rfl) | (refine at_ro (by first | exact .head _ | exact .tail _ (.head _) | exact .tail _ (.tail _ (.head _)) | simp) ?_ (by assumption); trivial))) ?_
    refine x_val rfl rfl rfl (v_len_slice Tryz.underlying47 rfl) ?_
    refine x_val rfl rfl rfl (v_move rfl) ?_
    refine x_end ?_
    refine t_norm ?_
    refine w_block ?_
    refine w_loop (σ := Nat × List (List ByteArray) × RowS × List RowS) (fun x => x.1 ≤ l[k].els.length ∧ x.2.1.length = x.1 ∧ SSOK x.2.2.1 x.2.2.2 x.2.1 ∧ ∀ y ∈ x.2.1, y.length ≤ 100 ∧ ∀ s ∈ y, s.size ≤ 2000000000) (fun x => [(2, Value.string t), (4, Value.pointer (some ⟨p4, 0, none⟩)), (7, rowV R k), (17, Value.slice A l.length cp), (18, Value.int .i64 (l.length : Nat)), (19, Value.int .i64 (k : Nat)), (10, Value.pointer (some ⟨p10, 0, none⟩)), (27, Value.slice eA l[k].els.length ec), (28, Value.int .i64 (l[k].els.length : Nat)), (29, Value.int .i64 (x.1 : Nat))]) (fun x => inO 9 x.2.2.2 ++ (rowO 54 x.2.2.1 ++ ((p10, Obj.cells [Value.string l[k].tag, rowV x.2.2.1 (x.2.1.length)].toArray 49) :: (sgO 54 9 G ++ (rowO 49 R ++ [(p4, Obj.cells [Value.int .i64 q0, .int .i64 q1, .int .i64 q2, .int .i64 q3].toArray 60)]))))) (fun x => [(w, fun _ => True)]) (fun x => l[k].els.length - x.1) ((0, [], none, [])) (⟨Nat.zero_le _, rfl, SSOK.nil, fun y hy => by cases hy⟩) (l_start (by repeat (first | exact Sub.nil | refine Sub.cons rfl ?_)) (fun _ h => h.less (List.Sublist.cons_cons _ (List.sublist_cons_self _ _)) (fun _ h => h))) ?_
    rintro ⟨j, xs, R2, S2⟩ ⟨hj, hxl, hS, hz⟩
    refine w_state ([(2, Value.string t), (4, Value.pointer (some ⟨p4, 0, none⟩)), (7, rowV R k), (17, Value.slice A l.length cp), (18, Value.int .i64 (l.length : Nat)), (19, Value.int .i64 (k : Nat)), (10, Value.pointer (some ⟨p10, 0, none⟩)), (27, Value.slice eA l[k].els.length ec), (28, Value.int .i64 (l[k].els.length : Nat)), (29, Value.int .i64 (j : Nat))]) (inO 9 S2 ++ (rowO 54 R2 ++ ((p10, Obj.cells [Value.string l[k].tag, rowV R2 (xs.length)].toArray 49) :: (sgO 54 9 G ++ (rowO 49 R ++ [(p4, Obj.cells [Value.int .i64 q0, .int .i64 q1, .int .i64 q2, .int .i64 q3].toArray 60)]))))) ([(w, fun _ => True)]) ?_
    dsimp only at hj hxl hS hz
    refine w_seq ?_
    refine rg_text ?_
    refine x_bool rfl rfl rfl (v_lss rfl rfl) ?_
    intro b30 hb30
    refine x_end ?_
    refine t_norm ?_
    refine w_seq ?_
    refine w_cond rfl (fun hc30 => ?_) (fun hc30 => ?_)
    · simp only [hb30, decide_eq_true_eq, decide_eq_false_iff_not, Bool.and_eq_true, Bool.or_eq_true, Bool.and_eq_false_iff, Bool.or_eq_false_iff, Bool.not_eq_true', Bool.not_eq_false', ne_eq, Decidable.not_not] at hc30
      have hjl : j < l[k].els.length := by omega
      obtain ⟨eb, eo, ev, hA1, hD1, he1, hes⟩ := sl_at hels hjl
      obtain ⟨rA, rc, rfl, _, hrm, _⟩ := id hes
      obtain ⟨es, hesd⟩ : ∃ y, l[k].els[j] = y := ⟨_, rfl⟩
      have hfes := hfy _ (List.getElem_mem hjl)
      have hbes := hbe _ (List.getElem_mem hjl)
      rw [hesd] at he1 hes hrm hfes hbes
      refine w_skip ?_
      refine t_norm ?_
      refine w_seq ?_
      refine w_block ?_
      refine w_seq ?_
      refine rg_text ?_
      refine x_val rfl rfl rfl (v_indexAddr Tryz.underlying47 sz54 (congrArg (fun A => some (Value.slice A l[k].els.length ec)) hA1) rfl (hjl) rfl) ?_
      refine x_val rfl rfl rfl (v_load Tryz.underlying54 rfl rfl (at_ro (.head _) trivial (by rw [Nat.mul_one]; exact he1))) ?_
      refine x_val rfl rfl rfl (v_assign rfl) ?_
      refine x_end ?_
      refine t_norm ?_
      refine rg_inv ([(p10, Obj.cells [Value.string l[k].tag, rowV R2 (xs.length)].toArray 49)]) 8 (.flt 0 (.flt 1 (.flt 3 (.gr 2 (.gr 4 (.gr 5 (.gr 6 (.flt 7 .done) .nil) .nil) .nil) .nil)))) ((List.Sublist.cons_cons _ (List.nil_sublist _)).trans ((List.sublist_append_right _ _).trans (List.sublist_append_right _ _))) (by kernel_rfl) (by kernel_rfl) ?_
      refine j_val rfl rfl (v_fieldAddr (off' := 1) Tryz.underlying49 rfl sz47 (by decide) rfl rfl) ?_
      refine j_val rfl rfl (v_load Tryz.underlying47 rfl rfl (at_ownL (vs := [Value.string l[k].tag, rowV R2 xs.length]) (.head _) rfl)) ?_
      refine j_val rfl rfl (v_move rfl) ?_
      refine j_gr ?_ j_nil
      refine x_buildSlice0 rfl rfl rfl Tryz.underlying54 sz9 ?_
      intro p35
      refine x_end ?_
      refine j_end (.cons _ ((List.Sublist.cons_cons _ (List.nil_sublist _)).trans ((List.sublist_append_right _ _).trans (List.sublist_append_right _ _)))) ?_
      refine j_gr ?_ j_nil
      refine x_append_any (e := 9) (ao := rA) [] (l2 := inO 9 S2 ++ (rowO 54 R2 ++ ((p10, Obj.cells [Value.string l[k].tag, rowV R2 (xs.length)].toArray 49) :: (sgO 54 9 G ++ (rowO 49 R ++ [(p4, Obj.cells [Value.int .i64 q0, .int .i64 q1, .int .i64 q2, .int .i64 q3].toArray 60)]))))) (some (p35, [], 0)) (len := 0) (xs := []) (news := es.map Value.string) rfl rfl rfl rfl rfl ⟨rfl, Nat.le_refl _, Nat.zero_le _, rfl, rfl⟩ Tryz.underlying54 ap9 rfl (by rw [List.length_map, Nat.mul_one]) (str_news hes).1 (fun w1 hw1 => (str_news (hes.keep (Kept.later (hw1.base (by simp))))).2) (all_str es) (by simp only [maxLen]; omega) (by omega) ?_
      intro S' hS'
      rw [Nat.zero_add es.length] at hS' ⊢
      refine x_end ?_
      refine j_end (((List.Sublist.cons_cons _ (List.nil_sublist _)).trans ((List.sublist_append_right _ _).trans (List.sublist_append_right _ _))).trans (List.sublist_append_right _ _)) ?_
      refine j_gr ?_ j_nil
      refine x_buildSliceL (cs := [rowV S' es.length]) rfl rfl rfl Tryz.underlying47 sz54 zr54 rfl rfl rfl ?_
      intro p38
      refine x_end ?_
      refine j_end (.cons _ (((List.Sublist.cons_cons _ (List.nil_sublist _)).trans ((List.sublist_append_right _ _).trans (List.sublist_append_right _ _))).trans (List.sublist_append_right _ _))) ?_
      refine j_gr ?_ j_nil
      refine x_append (e := 54) ((p38, Obj.cells [rowV S' es.length].toArray 54) :: (rowO 9 S' ++ inO 9 S2)) (l2 := (p10, Obj.cells [Value.string l[k].tag, rowV R2 (xs.length)].toArray 49) :: (sgO 54 9 G ++ (rowO 49 R ++ [(p4, Obj.cells [Value.int .i64 q0, .int .i64 q1, .int .i64 q2, .int .i64 q3].toArray 60)]))) R2 (len := xs.length) (xs := ssC xs S2) rfl rfl rfl rfl (by simp [List.append_assoc]) hS.row Tryz.underlying47 ap54 rfl rfl (m := 1) (news := [rowV S' es.length]) (fun i hi => at_ownL (vs := [rowV S' es.length]) (.head _) (by rw [Nat.zero_add]; exact List.getElem?_eq_getElem hi)) rfl (by simp only [maxLen]; omega) (by omega) ?_
      intro R' hR'
      refine x_end ?_
      refine j_end ((List.Sublist.cons_cons _ (List.nil_sublist _)).trans (List.sublist_append_right _ _)) ?_
      refine j_val rfl rfl (v_fieldAddr (off' := 1) Tryz.underlying49 rfl sz47 (by decide) rfl rfl) ?_
      refine j_done ?_
      refine x_store (cs := [Value.string l[k].tag, rowV R2 xs.length]) (off := 1) (e := 49) (l2 := sgO 54 9 G ++ (rowO 49 R ++ [(p4, Obj.cells [Value.int .i64 q0, .int .i64 q1, .int .i64 q2, .int .i64 q3].toArray 60)])) ((p38, Obj.cells [rowV S' es.length].toArray 54) :: (rowO 9 S' ++ (inO 9 S2 ++ rowO 54 R'))) rfl rfl rfl (by simp [List.append_assoc]) sz47 rfl (by show 2 ≤ 2; decide) ?_
      refine x_end ?_
      refine b_norm ?_
      refine t_norm ?_
      refine rg_text ?_
      refine x_val rfl rfl rfl (v_addi rfl rfl rfl (by first | omega | (dsimp only; omega))) ?_
      refine x_val rfl rfl rfl (v_move rfl) ?_
      refine x_end ?_
      have hap : ∀ Z, inO 9 (S2 ++ [S']) ++ (rowO 54 R' ++ Z) = (rowO 9 S' ++ (inO 9 S2 ++ rowO 54 R')) ++ Z := fun Z => by rw [inO_snoc]; simp only [List.append_assoc]
      exact l_norm (j + 1, xs ++ [es], R', S2 ++ [S']) ⟨by dsimp only; omega, by dsimp only; rw [List.length_append, List.length_singleton]; omega, hS.snoc hR' hS', fun y hy => by rcases List.mem_append.1 hy with h | h; (· exact hz y h); rw [List.mem_singleton.1 h]; exact ⟨hfes, hbes⟩⟩ (by simp only; omega) (by repeat (first | exact Sub.nil | refine Sub.cons rfl ?_)) (fun w1 h => by dsimp only; rw [List.length_append, List.length_singleton, hap]; exact h.less (List.sublist_cons_self _ _) (fun _ h => h))
    · simp only [hb30, decide_eq_true_eq, decide_eq_false_iff_not, Bool.and_eq_true, Bool.or_eq_true, Bool.and_eq_false_iff, Bool.or_eq_false_iff, Bool.not_eq_true', Bool.not_eq_false', ne_eq, Decidable.not_not] at hc30
      obtain rfl : j = l[k].els.length := by omega
      have hrw := hG.row
      rw [hGl] at hrw
      have hkf := hfew.1
      refine w_exit ?_
      refine t_exit ?_
      refine t_exit ?_
      refine b_hit ?_
      refine t_norm ?_
      refine rg_text ?_
      refine x_val rfl rfl rfl (v_move rfl) ?_
      refine x_val rfl rfl rfl (v_load_blk (e := 49) (fz := (0, 0)) (cs := [Value.string l[k].tag, rowV R2 xs.length].toArray) Tryz.underlying49 rfl rfl (List.mem_append_right _ (List.mem_append_right _ (.head _))) sz49) ?_
      refine x_buildSliceL (cs := [Value.string l[k].tag, rowV R2 xs.length]) rfl rfl rfl Tryz.underlying29 sz49 zr49 rfl rfl rfl ?_
      intro p44
      refine x_append (e := 49) ((p44, Obj.cells [Value.string l[k].tag, rowV R2 xs.length].toArray 49) :: (inO 9 S2 ++ (rowO 54 R2 ++ ((p10, Obj.cells [Value.string l[k].tag, rowV R2 (xs.length)].toArray 49) :: sgO 54 9 G)))) (l2 := [(p4, Obj.cells [Value.int .i64 q0, .int .i64 q1, .int .i64 q2, .int .i64 q3].toArray 60)]) R (len := k) (xs := sgC G) rfl rfl rfl rfl (by simp [List.append_assoc]) hrw Tryz.underlying29 ap49 rfl rfl (m := 1) (news := [Value.string l[k].tag, rowV R2 xs.length]) (fun i hi => at_ownL (vs := [Value.string l[k].tag, rowV R2 xs.length]) (.head _) (by rw [Nat.zero_add]; exact List.getElem?_eq_getElem hi)) rfl (by simp only [maxLen]; omega) (by omega) ?_
      intro R' hR'
      refine x_val rfl rfl rfl (v_assign rfl) ?_
      refine x_end ?_
      refine b_norm ?_
      refine t_norm ?_
      refine rg_text ?_
      refine x_val rfl rfl rfl (v_addi rfl rfl rfl (by first | omega | (dsimp only; omega))) ?_
      refine x_val rfl rfl rfl (v_move rfl) ?_
      refine x_end ?_
      have hsg : SgOK ⟨l[k].tag, R2, S2, xs⟩ := ⟨htok, hS, fun y hy => (hz y hy).2⟩
      exact l_norm (k + 1, R', G ++ [⟨l[k].tag, R2, S2, xs⟩]) ⟨by dsimp only; omega, by dsimp only; rw [List.length_append, List.length_singleton]; omega, hG.snoc (by rw [hGl]; exact hR') hsg, fun s hs => by rcases List.mem_append.1 hs with h | h; (· exact hF s h); rw [List.mem_singleton.1 h]; exact ⟨by dsimp only; omega, fun y hy => (hz y hy).1⟩⟩ (by simp only; omega) (by repeat (first | exact Sub.nil | refine Sub.cons rfl ?_)) (fun w1 h => h.less (by dsimp only; rw [sgO_snoc]; simp only [List.append_assoc, List.cons_append]; exact List.Sublist.cons _ ((List.Sublist.refl _).append ((List.Sublist.refl _).append (List.Sublist.cons _ (List.Sublist.refl _))))) (fun _ h => h))
  · simp only [hb20, decide_eq_true_eq, decide_eq_false_iff_not, Bool.and_eq_true, Bool.or_eq_true, Bool.and_eq_false_iff, Bool.or_eq_false_iff, Bool.not_eq_true', Bool.not_eq_false', ne_eq, Decidable.not_not] at hc20
    obtain rfl : k = l.length := by omega
    have hkf := hfew.1
    refine w_exit ?_
    refine t_exit ?_
    refine t_exit ?_
    refine b_hit ?_
    refine t_norm ?_
    refine w_seq ?_
    refine w_seq ?_
    refine rg_text ?_
    refine x_val rfl rfl rfl (v_move rfl) ?_
    refine x_val rfl rfl rfl (v_len_slice Tryz.underlying29 rfl) ?_
    refine x_bool rfl rfl rfl (v_eql rfl rfl) ?_
    intro b49 hb49
    refine x_end ?_
    refine t_norm ?_
    refine w_cond rfl (fun hc49 => ?_) (fun hc49 => ?_)
    · simp only [hb49, decide_eq_true_eq, decide_eq_false_iff_not, Bool.and_eq_true, Bool.or_eq_true, Bool.and_eq_false_iff, Bool.or_eq_false_iff, Bool.not_eq_true', Bool.not_eq_false', ne_eq, Decidable.not_not] at hc49
      refine w_seq ?_
      refine rg_text ?_
      refine x_val rfl rfl rfl (v_move rfl) ?_
      refine x_val rfl rfl rfl (v_assign rfl) ?_
      refine x_end ?_
      refine t_norm ?_
      refine w_ret ?_
      refine t_ret ?_
      refine ret1 rfl rfl (fun w' hm => ⟨_, G.map Sgr.seg, rfl, hm.base (by simp), hG.rd (e0 := 49) (e1 := 54) (e2 := 9) hGl.symm hm (fun p hp => List.mem_append_right _ (List.mem_append_left _ hp)) (fun s hs p hp => List.mem_append_left _ (mem_sgO hs p hp)) (fun p hp => hm.newer (by simp) hp), hG.big⟩)
    · simp only [hb49, decide_eq_true_eq, decide_eq_false_iff_not, Bool.and_eq_true, Bool.or_eq_true, Bool.and_eq_false_iff, Bool.or_eq_false_iff, Bool.not_eq_true', Bool.not_eq_false', ne_eq, Decidable.not_not] at hc49
      have hlp : 0 < l.length := by omega
      obtain ⟨bR, csR, cR, rfl, hcl, hlc2, hcm, _⟩ := hG.row_is (by omega)
      refine w_skip ?_
      refine t_norm ?_
      refine w_seq ?_
      refine rg_text ?_
      refine x_val rfl rfl rfl (v_indexArr (j := 1) (off' := 1) Tryz.underlying60 sz3 rfl rfl (by first | omega | (dsimp only; omega)) rfl) ?_
      refine x_val rfl rfl rfl (v_load Tryz.underlying3 rfl rfl (at_ownL (vs := [Value.int .i64 q0, .int .i64 q1, .int .i64 q2, .int .i64 q3]) (List.mem_append_right _ (List.mem_append_right _ (.head _))) rfl)) ?_
      refine x_val rfl rfl rfl (v_move rfl) ?_
      refine x_val rfl rfl rfl (v_len_slice Tryz.underlying29 rfl) ?_
      obtain ⟨n, hn, hln⟩ := mod_nat q1 (show 0 < l.length by omega)
      refine x_callv (v := Value.int .i64 ((n : Nat) : Int)) rfl rfl rfl Tryz.func10 (by kernel_rfl) rfl (fun w1 hw1 => by have h := c_Mod q1 ((l.length : Nat) : Int) w1 hq.2.1 (by omega); rw [hn] at h; exact h) ?_
      refine x_val rfl rfl rfl (v_assign rfl) ?_
      refine x_end ?_
      refine t_norm ?_
      refine w_seq ?_
      refine rg_text ?_
      refine x_val rfl rfl rfl (v_move rfl) ?_
      refine x_val rfl rfl rfl (v_move rfl) ?_
      obtain ⟨GA, gs, GB, rfl, rfl⟩ := split_at (show n < G.length by omega)
      obtain ⟨tg, sR, sS, sxs⟩ := gs
      obtain ⟨ha1, ha2, ha3⟩ := hG.at2
      dsimp only at ha1 ha2 ha3
      have hBm : (p4, Obj.cells [Value.int .i64 q0, .int .i64 q1, .int .i64 q2, .int .i64 q3].toArray 60) ∈ sgO 54 9 (GA ++ ⟨tg, sR, sS, sxs⟩ :: GB) ++ (rowO 49 (some (bR, csR, cR)) ++ [(p4, Obj.cells [Value.int .i64 q0, .int .i64 q1, .int .i64 q2, .int .i64 q3].toArray 60)]) := List.mem_append_right _ (List.mem_append_right _ (.head _))
      have hRm : (bR, Obj.cells csR.toArray 49) ∈ sgO 54 9 (GA ++ ⟨tg, sR, sS, sxs⟩ :: GB) ++ (rowO 49 (some (bR, csR, cR)) ++ [(p4, Obj.cells [Value.int .i64 q0, .int .i64 q1, .int .i64 q2, .int .i64 q3].toArray 60)]) := List.mem_append_right _ (List.mem_append_left _ (by simp [rowO]))
      have hsg := hG.sub ⟨tg, sR, sS, sxs⟩ (by simp)
      have hss := hsg.ss
      obtain ⟨hsf, hsf2⟩ := hF ⟨tg, sR, sS, sxs⟩ (by simp)
      dsimp only at hss hsf hsf2
      refine x_val rfl rfl rfl (v_indexAddr Tryz.underlying29 sz49 rfl rfl (by omega) rfl) ?_
      refine x_val rfl rfl rfl (v_assign rfl) ?_
      refine x_end ?_
      refine t_norm ?_
      refine w_seq_cut (σ := RowS × List Sgr × List (Nat × Obj)) (fun q => SgsOK q.1 q.2.1 ∧ (∀ p ∈ rowO 49 q.1, p ∈ q.2.2) ∧ ∀ s ∈ q.2.1, ∀ p ∈ s.own 54 9, p ∈ q.2.2) (fun q => [(7, rowV q.1 q.2.1.length)]) (fun q => q.2.2) (fun q => [(w, fun _ => True)]) ?_ ?_
      · refine w_seq ?_
        refine rg_text ?_
        refine x_val rfl rfl rfl (v_indexArr (j := 0) (off' := 0) Tryz.underlying60 sz3 rfl rfl (by first | omega | (dsimp only; omega)) rfl) ?_
        refine x_val rfl rfl rfl (v_load Tryz.underlying3 rfl rfl (at_ownL (vs := [Value.int .i64 q0, .int .i64 q1, .int .i64 q2, .int .i64 q3]) hBm rfl)) ?_
        refine x_callv (v := Value.int .i64 (q0 % (8 : Int))) rfl rfl rfl Tryz.func10 (by kernel_rfl) rfl (fun w1 hw1 => c_Mod q0 8 w1 hq.1 (by decide)) ?_
        refine x_end ?_
        refine t_norm ?_
        refine w_block ?_
        refine w_seq_cut (σ := Int × Bool) (fun x => True) (fun x => [(2, Value.string t), (4, Value.pointer (some ⟨p4, 0, none⟩)), (7, rowV (some (bR, csR, cR)) l.length), (13, Value.int .i64 (GA.length : Nat)), (14, Value.pointer (some ⟨bR, 0 + GA.length * 2, none⟩)), (61, Value.int .i64 x.1), (62, Value.bool x.2)]) (fun x => sgO 54 9 (GA ++ ⟨tg, sR, sS, sxs⟩ :: GB) ++ (rowO 49 (some (bR, csR, cR)) ++ [(p4, Obj.cells [Value.int .i64 q0, .int .i64 q1, .int .i64 q2, .int .i64 q3].toArray 60)])) (fun x => [(w, fun _ => True)]) ?_ ?_
        · refine w_seq ?_
          refine rg_text ?_
          refine x_bool rfl rfl rfl (v_eql rfl rfl) ?_
          intro b63 hb63
          refine x_val rfl rfl rfl (v_assign rfl) ?_
          refine x_end ?_
          refine t_norm ?_
          refine w_cond rfl (fun hc62 => ?_) (fun hc62 => ?_)
          · simp only [hb63, decide_eq_true_eq, decide_eq_false_iff_not, Bool.and_eq_true, Bool.or_eq_true, Bool.and_eq_false_iff, Bool.or_eq_false_iff, Bool.not_eq_true', Bool.not_eq_false', ne_eq, Decidable.not_not] at hc62
            refine w_skip ?_
            exact c_norm (_, _) trivial (by repeat (first | exact Sub.nil | refine Sub.cons rfl ?_)) (fun _ h => h)
          · simp only [hb63, decide_eq_true_eq, decide_eq_false_iff_not, Bool.and_eq_true, Bool.or_eq_true, Bool.and_eq_false_iff, Bool.or_eq_false_iff, Bool.not_eq_true', Bool.not_eq_false', ne_eq, Decidable.not_not] at hc62
            refine w_seq ?_
            refine rg_text ?_
            refine x_bool rfl rfl rfl (v_eql rfl rfl) ?_
            intro b64 hb64
            refine x_val rfl rfl rfl (v_assign rfl) ?_
            refine x_end ?_
            refine t_norm ?_
            refine w_cond rfl (fun hc62 => ?_) (fun hc62 => ?_)
            · simp only [hb64, decide_eq_true_eq, decide_eq_false_iff_not, Bool.and_eq_true, Bool.or_eq_true, Bool.and_eq_false_iff, Bool.or_eq_false_iff, Bool.not_eq_true', Bool.not_eq_false', ne_eq, Decidable.not_not] at hc62
              refine w_skip ?_
              exact c_norm (_, _) trivial (by repeat (first | exact Sub.nil | refine Sub.cons rfl ?_)) (fun _ h => h)
            · simp only [hb64, decide_eq_true_eq, decide_eq_false_iff_not, Bool.and_eq_true, Bool.or_eq_true, Bool.and_eq_false_iff, Bool.or_eq_false_iff, Bool.not_eq_true', Bool.not_eq_false', ne_eq, Decidable.not_not] at hc62
              refine rg_text ?_
              refine x_bool rfl rfl rfl (v_eql rfl rfl) ?_
              intro b65 hb65
              refine x_val rfl rfl rfl (v_assign rfl) ?_
              refine x_end ?_
              exact c_norm (_, _) trivial (by repeat (first | exact Sub.nil | refine Sub.cons rfl ?_)) (fun _ h => h)
        · rintro ⟨mm, b62⟩ _
          refine w_state ([(2, Value.string t), (4, Value.pointer (some ⟨p4, 0, none⟩)), (7, rowV (some (bR, csR, cR)) l.length), (13, Value.int .i64 (GA.length : Nat)), (14, Value.pointer (some ⟨bR, 0 + GA.length * 2, none⟩)), (61, Value.int .i64 mm), (62, Value.bool b62)]) (sgO 54 9 (GA ++ ⟨tg, sR, sS, sxs⟩ :: GB) ++ (rowO 49 (some (bR, csR, cR)) ++ [(p4, Obj.cells [Value.int .i64 q0, .int .i64 q1, .int .i64 q2, .int .i64 q3].toArray 60)])) ([(w, fun _ => True)]) ?_
          skip
          refine w_cond rfl (fun hc62 => ?_) (fun hc62 => ?_)
          · skip
            refine w_seq ?_
            refine rg_text ?_
            refine x_val rfl rfl rfl (v_move rfl) ?_
            refine x_val rfl rfl rfl (v_nilCheck rfl) ?_
            refine x_val rfl rfl rfl (v_fieldAddr Tryz.underlying49 rfl sz47 (by decide) rfl rfl) ?_
            refine x_val rfl rfl rfl (v_load Tryz.underlying47 rfl rfl (at_ownL (vs := csR) hRm (by rw [Nat.zero_add]; exact ha2))) ?_
            refine x_val rfl rfl rfl (v_len_slice Tryz.underlying47 rfl) ?_
            refine x_bool rfl rfl rfl (v_gtr rfl rfl) ?_
            intro b71 hb71
            refine x_end ?_
            refine t_norm ?_
            refine w_cond rfl (fun hc71 => ?_) (fun hc71 => ?_)
            · simp only [hb71, decide_eq_true_eq, decide_eq_false_iff_not, Bool.and_eq_true, Bool.or_eq_true, Bool.and_eq_false_iff, Bool.or_eq_false_iff, Bool.not_eq_true', Bool.not_eq_false', ne_eq, Decidable.not_not] at hc71
              obtain ⟨b1, cs1, c1, rfl⟩ := hss.row_is (by omega)
              refine w_seq ?_
              refine rg_draw 15 [(true, 0), (true, 1), (true, 2), (true, 3), (true, 4), (true, 5), (true, 6), (true, 7), (true, 8), (true, 9), (true, 10), (true, 11), (true, 12), (true, 13), (true, 14)] (by kernel_rfl) (by kernel_rfl) ?_
              refine x_val rfl rfl rfl (v_move rfl) ?_
              refine x_val rfl rfl rfl (v_nilCheck rfl) ?_
              refine x_val rfl rfl rfl (v_fieldAddr Tryz.underlying49 rfl sz47 (by decide) rfl rfl) ?_
              refine x_val rfl rfl rfl (v_load Tryz.underlying47 rfl rfl (at_ownL (vs := csR) hRm (by rw [Nat.zero_add]; exact ha2))) ?_
              refine x_val rfl rfl rfl (v_indexArr (j := 2) Tryz.underlying60 sz3 rfl rfl (by first | omega | (dsimp only; omega)) rfl) ?_
              refine x_val rfl rfl rfl (v_load Tryz.underlying3 rfl rfl (at_ownL (vs := [Value.int .i64 q0, .int .i64 q1, .int .i64 q2, .int .i64 q3]) hBm rfl)) ?_
              refine x_val rfl rfl rfl (v_move rfl) ?_
              refine x_val rfl rfl rfl (v_nilCheck rfl) ?_
              refine x_val rfl rfl rfl (v_fieldAddr Tryz.underlying49 rfl sz47 (by decide) rfl rfl) ?_
              refine x_val rfl rfl rfl (v_load Tryz.underlying47 rfl rfl (at_ownL (vs := csR) hRm (by rw [Nat.zero_add]; exact ha2))) ?_
              refine x_val rfl rfl rfl (v_len_slice Tryz.underlying47 rfl) ?_
              obtain ⟨i, hi, hli⟩ := mod_nat q2 (show 0 < sxs.length by omega)
              refine x_callv (v := Value.int .i64 ((i : Nat) : Int)) rfl rfl rfl Tryz.func10 (by kernel_rfl) rfl (fun w1 hw1 => by have h := c_Mod q2 ((sxs.length : Nat) : Int) w1 hq.2.2.1 (by omega); rw [hi] at h; exact h) ?_
              obtain ⟨ya, x, yb, As, S, Bs, rfl, rfl, rfl, hAi⟩ := hss.split hli
              obtain ⟨hs1, hs2⟩ := hss.atM hAi
              refine x_val rfl rfl rfl (v_indexAddr Tryz.underlying47 sz54 rfl rfl hli rfl) ?_
              refine x_val rfl rfl rfl (v_load Tryz.underlying54 rfl rfl (at_ownL (vs := cs1) (List.mem_append_left _ (mem_sgO (List.mem_append_right _ (.head _)) _ (List.mem_append_right _ (show (b1, Obj.cells cs1.toArray 54) ∈ rowO 54 (some (b1, cs1, c1)) from .head _)))) (by rw [Nat.zero_add, Nat.mul_one]; exact hs1))) ?_
              refine x_val rfl rfl rfl (v_assign rfl) ?_
              refine x_end ?_
              refine t_norm ?_
              refine w_seq ?_
              refine rg_text ?_
              refine x_val rfl rfl rfl (v_move rfl) ?_
              refine x_val rfl rfl rfl (v_len_slice Tryz.underlying54 rfl) ?_
              refine x_bool rfl rfl rfl (v_gtr rfl rfl) ?_
              intro b88 hb88
              refine x_end ?_
              refine t_norm ?_
              refine w_cond rfl (fun hc88 => ?_) (fun hc88 => ?_)
              · simp only [hb88, decide_eq_true_eq, decide_eq_false_iff_not, Bool.and_eq_true, Bool.or_eq_true, Bool.and_eq_false_iff, Bool.or_eq_false_iff, Bool.not_eq_true', Bool.not_eq_false', ne_eq, Decidable.not_not] at hc88
                have hxf := hsf2 x (by simp)
                obtain ⟨bS, csS, cS, rfl, hxc⟩ := row_cell hs2 (by omega)
                refine rg_text ?_
                refine x_val rfl rfl rfl (v_move rfl) ?_
                refine x_val rfl rfl rfl (v_indexArr (j := 3) Tryz.underlying60 sz3 rfl rfl (by first | omega | (dsimp only; omega)) rfl) ?_
                refine x_val rfl rfl rfl (v_load Tryz.underlying3 rfl rfl (at_ownL (vs := [Value.int .i64 q0, .int .i64 q1, .int .i64 q2, .int .i64 q3]) hBm rfl)) ?_
                refine x_val rfl rfl rfl (v_move rfl) ?_
                refine x_val rfl rfl rfl (v_len_slice Tryz.underlying54 rfl) ?_
                obtain ⟨kk, hkk, hlkk⟩ := mod_nat q3 (show 0 < x.length by omega)
                refine x_callv (v := Value.int .i64 ((kk : Nat) : Int)) rfl rfl rfl Tryz.func10 (by kernel_rfl) rfl (fun w1 hw1 => by have h := c_Mod q3 ((x.length : Nat) : Int) w1 hq.2.2.2 (by omega); rw [hkk] at h; exact h) ?_
                refine x_val rfl rfl rfl (v_move rfl) ?_
                refine x_val rfl rfl rfl (v_indexAddr Tryz.underlying54 sz9 rfl rfl (hlkk) rfl) ?_
                refine x_store (cs := csS) (off := 0 + kk * 1) (e := 9) (l2 := inO 9 As ++ (rowO 54 (some (b1, cs1, c1)) ++ (sgO 54 9 GA ++ (rowO 49 (some (bR, csR, cR)) ++ [(p4, Obj.cells [Value.int .i64 q0, .int .i64 q1, .int .i64 q2, .int .i64 q3].toArray 60)])))) (sgO 54 9 GB ++ inO 9 Bs) rfl rfl rfl (by rw [sgO_mid]; dsimp only; rw [inO_mid]; simp only [List.append_assoc, rowO, List.cons_append, List.nil_append]) sz9 rfl (by omega) ?_
                rw [show 0 + kk * 1 = kk by omega, put_str (by omega)]
                refine x_end ?_
                refine b_norm ?_
                have hsn : SgOK ⟨tg, (some (b1, cs1, c1)), As ++ some (bS, csS.set kk (Value.string t), cS) :: Bs, ya ++ x.set kk t :: yb⟩ := hsg.text (s := ⟨tg, (some (b1, cs1, c1)), As ++ some (bS, csS, cS) :: Bs, ya ++ x :: yb⟩) (hss.setM hAi (row_set hs2 hlkk) (by rw [List.length_set]; rfl)) rfl ht
                exact c_norm ((some (bR, csR, cR)), (GA ++ ⟨tg, (some (b1, cs1, c1)), As ++ some (bS, csS.set kk (Value.string t), cS) :: Bs, ya ++ x.set kk t :: yb⟩ :: GB), sgO 54 9 (GA ++ ⟨tg, (some (b1, cs1, c1)), As ++ some (bS, csS.set kk (Value.string t), cS) :: Bs, ya ++ x.set kk t :: yb⟩ :: GB) ++ (rowO 49 (some (bR, csR, cR)) ++ [(p4, Obj.cells [Value.int .i64 q0, .int .i64 q1, .int .i64 q2, .int .i64 q3].toArray 60)])) ⟨hG.same hsn (by simp [Sgr.cells]), (fun p hp => List.mem_append_right _ (List.mem_append_left _ hp)), (fun s hs p hp => List.mem_append_left _ (mem_sgO hs p hp))⟩ (by dsimp only; rw [show (GA ++ ⟨tg, (some (b1, cs1, c1)), As ++ some (bS, csS.set kk (Value.string t), cS) :: Bs, ya ++ x.set kk t :: yb⟩ :: GB).length = l.length by simpa using hGl]; repeat (first | exact Sub.nil | refine Sub.cons rfl ?_)) (fun w1 h => h.to (by dsimp only; rw [sgO_mid]; dsimp only; rw [inO_mid]; simp only [List.append_assoc, rowO, List.cons_append, List.nil_append]))
              · simp only [hb88, decide_eq_true_eq, decide_eq_false_iff_not, Bool.and_eq_true, Bool.or_eq_true, Bool.and_eq_false_iff, Bool.or_eq_false_iff, Bool.not_eq_true', Bool.not_eq_false', ne_eq, Decidable.not_not] at hc88
                refine w_skip ?_
                refine b_norm ?_
                exact c_norm ((some (bR, csR, cR)), _, _) ⟨hG, (fun p hp => List.mem_append_right _ (List.mem_append_left _ hp)), (fun s hs p hp => List.mem_append_left _ (mem_sgO hs p hp))⟩ (by dsimp only; rw [hGl]; repeat (first | exact Sub.nil | refine Sub.cons rfl ?_)) (fun _ h => h)
            · simp only [hb71, decide_eq_true_eq, decide_eq_false_iff_not, Bool.and_eq_true, Bool.or_eq_true, Bool.and_eq_false_iff, Bool.or_eq_false_iff, Bool.not_eq_true', Bool.not_eq_false', ne_eq, Decidable.not_not] at hc71
              refine w_skip ?_
              refine b_norm ?_
              exact c_norm ((some (bR, csR, cR)), _, _) ⟨hG, (fun p hp => List.mem_append_right _ (List.mem_append_left _ hp)), (fun s hs p hp => List.mem_append_left _ (mem_sgO hs p hp))⟩ (by dsimp only; rw [hGl]; repeat (first | exact Sub.nil | refine Sub.cons rfl ?_)) (fun _ h => h)
          · skip
            refine w_seq ?_
            refine rg_text ?_
            refine x_bool rfl rfl rfl (v_eql rfl rfl) ?_
            intro b98 hb98
            refine x_val rfl rfl rfl (v_assign rfl) ?_
            refine x_end ?_
            refine t_norm ?_
            refine w_cond rfl (fun hc97 => ?_) (fun hc97 => ?_)
            · simp only [hb98, decide_eq_true_eq, decide_eq_false_iff_not, Bool.and_eq_true, Bool.or_eq_true, Bool.and_eq_false_iff, Bool.or_eq_false_iff, Bool.not_eq_true', Bool.not_eq_false', ne_eq, Decidable.not_not] at hc97
              refine rg_text ?_
              refine x_val rfl rfl rfl (v_move rfl) ?_
              refine x_val rfl rfl rfl (v_move rfl) ?_
              refine x_val rfl rfl rfl (v_nilCheck rfl) ?_
              refine x_val rfl rfl rfl (v_fieldAddr Tryz.underlying49 rfl sz47 (by decide) rfl rfl) ?_
              refine x_val rfl rfl rfl (v_load Tryz.underlying47 rfl rfl (at_ownL (vs := csR) hRm (by rw [Nat.zero_add]; exact ha2))) ?_
              refine x_val rfl rfl rfl (v_move rfl) ?_
              refine x_buildSliceL (cs := [Value.string t]) rfl rfl rfl Tryz.underlying54 sz9 zr9 rfl rfl rfl ?_
              intro p105
              refine x_buildSliceL (cs := [Value.slice (some ⟨p105, 0, none⟩) 1 1]) rfl rfl rfl Tryz.underlying47 sz54 zr54 rfl rfl rfl ?_
              intro p106
              refine x_append (e := 54) ((p106, Obj.cells [Value.slice (some ⟨p105, 0, none⟩) 1 1].toArray 54) :: (p105, Obj.cells [Value.string t].toArray 9) :: (sgO 54 9 GB ++ inO 9 sS)) (l2 := sgO 54 9 GA ++ (rowO 49 (some (bR, csR, cR)) ++ [(p4, Obj.cells [Value.int .i64 q0, .int .i64 q1, .int .i64 q2, .int .i64 q3].toArray 60)])) sR (len := sxs.length) (xs := ssC sxs sS) rfl rfl rfl rfl (by rw [sgO_mid]; simp only [List.append_assoc, List.cons_append]) hss.row Tryz.underlying47 ap54 rfl rfl (m := 1) (news := [Value.slice (some ⟨p105, 0, none⟩) 1 1]) (fun i hi => at_ownL (vs := [Value.slice (some ⟨p105, 0, none⟩) 1 1]) (.head _) (by rw [Nat.zero_add]; exact List.getElem?_eq_getElem hi)) rfl (by simp only [maxLen]; omega) (by omega) ?_
              intro R' hR'
              refine x_val rfl rfl rfl (v_nilCheck rfl) ?_
              refine x_val rfl rfl rfl (v_fieldAddr Tryz.underlying49 rfl sz47 (by decide) rfl rfl) ?_
              refine x_store (cs := csR) (off := 0 + GA.length * 2 + 1) (e := 49) (l2 := [(p4, Obj.cells [Value.int .i64 q0, .int .i64 q1, .int .i64 q2, .int .i64 q3].toArray 60)]) ((p106, Obj.cells [Value.slice (some ⟨p105, 0, none⟩) 1 1].toArray 54) :: (p105, Obj.cells [Value.string t].toArray 9) :: (sgO 54 9 GB ++ (inO 9 sS ++ (rowO 54 R' ++ sgO 54 9 GA)))) rfl rfl rfl (by simp [List.append_assoc, rowO]) sz47 rfl (by omega) ?_
              rw [show 0 + GA.length * 2 = GA.length * 2 by omega]
              refine x_end ?_
              refine b_norm ?_
              have hsn : SgOK ⟨tg, R', sS ++ [some (p105, [Value.string t], 1)], sxs ++ [[t]]⟩ := hsg.more hR' ht
              have hzl : (sxs ++ [[t]]).length = sxs.length + 1 := by simp
              exact c_norm ((some (bR, List.take (GA.length * 2 + 1) csR ++ [rowV R' (sxs ++ [[t]]).length] ++ List.drop (GA.length * 2 + 1 + 1) csR, cR)), (GA ++ ⟨tg, R', sS ++ [some (p105, [Value.string t], 1)], sxs ++ [[t]]⟩ :: GB), sgO 54 9 (GA ++ ⟨tg, R', sS ++ [some (p105, [Value.string t], 1)], sxs ++ [[t]]⟩ :: GB) ++ (rowO 49 (some (bR, List.take (GA.length * 2 + 1) csR ++ [rowV R' (sxs ++ [[t]]).length] ++ List.drop (GA.length * 2 + 1 + 1) csR, cR)) ++ [(p4, Obj.cells [Value.int .i64 q0, .int .i64 q1, .int .i64 q2, .int .i64 q3].toArray 60)])) ⟨hG.put_els hsn, (fun p hp => List.mem_append_right _ (List.mem_append_left _ hp)), (fun s hs p hp => List.mem_append_left _ (mem_sgO hs p hp))⟩ (by dsimp only; rw [show (GA ++ ⟨tg, R', sS ++ [some (p105, [Value.string t], 1)], sxs ++ [[t]]⟩ :: GB).length = l.length by simpa using hGl]; repeat (first | exact Sub.nil | refine Sub.cons rfl ?_)) (fun w1 h => by
                have h2 := h.to (own' := (p106, Obj.cells [Value.slice (some ⟨p105, 0, none⟩) 1 1].toArray 54) :: (p105, Obj.cells [Value.string t].toArray 9) :: (sgO 54 9 GB ++ (inO 9 sS ++ (rowO 54 R' ++ (sgO 54 9 GA ++ (rowO 49 (some (bR, List.take (GA.length * 2 + 1) csR ++ [rowV R' (sxs ++ [[t]]).length] ++ List.drop (GA.length * 2 + 1 + 1) csR, cR)) ++ [(p4, Obj.cells [Value.int .i64 q0, .int .i64 q1, .int .i64 q2, .int .i64 q3].toArray 60)])))))) (by rw [hzl]; simp only [List.append_assoc, List.cons_append, rowO, List.nil_append]; rfl)
                exact ((h2.less (List.sublist_cons_self _ _) (fun _ h => h)).perm List.perm_middle.symm).to (by dsimp only; rw [sgO_mid]; dsimp only; rw [inO_snoc]; simp only [List.append_assoc, rowO, List.cons_append, List.nil_append]))
            · simp only [hb98, decide_eq_true_eq, decide_eq_false_iff_not, Bool.and_eq_true, Bool.or_eq_true, Bool.and_eq_false_iff, Bool.or_eq_false_iff, Bool.not_eq_true', Bool.not_eq_false', ne_eq, Decidable.not_not] at hc97
              refine w_seq ?_
              refine rg_text ?_
              refine x_bool rfl rfl rfl (v_eql rfl rfl) ?_
              intro b111 hb111
              refine x_val rfl rfl rfl (v_assign rfl) ?_
              refine x_end ?_
              refine t_norm ?_
              refine w_cond rfl (fun hc110 => ?_) (fun hc110 => ?_)
              · simp only [hb111, decide_eq_true_eq, decide_eq_false_iff_not, Bool.and_eq_true, Bool.or_eq_true, Bool.and_eq_false_iff, Bool.or_eq_false_iff, Bool.not_eq_true', Bool.not_eq_false', ne_eq, Decidable.not_not] at hc110
                refine rg_draw 7 [(true, 0), (true, 1), (true, 2), (true, 3), (true, 4), (true, 5), (true, 6)] (by kernel_rfl) (by kernel_rfl) ?_
                refine x_val rfl rfl rfl (v_move rfl) ?_
                refine x_val rfl rfl rfl (v_move rfl) ?_
                refine x_val rfl rfl rfl (v_scut_to Tryz.underlying29 sz49 rfl rfl (by show GA.length ≤ cR; simp only [List.length_append, List.length_cons] at hlc2; omega)) ?_
                refine x_val rfl rfl rfl (v_move rfl) ?_
                refine x_val rfl rfl rfl (v_move rfl) ?_
                refine x_val rfl rfl rfl (v_addi (c := ((GA.length + 1 : Nat) : Int)) rfl rfl (by omega) (by omega)) ?_
                have hgl2 : GA.length + 1 + GB.length = l.length := by rw [← hGl, List.length_append, List.length_cons]; omega
                refine x_val rfl rfl rfl (v_scut_from (i := GA.length + 1) Tryz.underlying29 sz49 rfl rfl (by omega) (by show l.length ≤ cR; omega)) ?_
                refine x_append_any (e := 49) (ao := (if cR = GA.length + 1 then some (⟨bR, 0, none⟩ : Addr) else (some (⟨bR, 0, none⟩ : Addr)).map (fun a => a.add ((GA.length + 1) * 2)))) (sgO 54 9 (GA ++ ⟨tg, sR, sS, sxs⟩ :: GB)) (l2 := [(p4, Obj.cells [Value.int .i64 q0, .int .i64 q1, .int .i64 q2, .int .i64 q3].toArray 60)]) (some (bR, csR, cR)) (len := GA.length) (xs := sgC GA) (m := l.length - (GA.length + 1)) (news := sgC GB) rfl rfl rfl rfl (by simp [List.append_assoc]) hG.less.1 Tryz.underlying29 ap49 rfl (by rw [sgC_len]; omega) (fun h => by split at h <;> cases h) (fun w1 hw1 => del_news hG hw1 hRm) (sgC_one GB) (by simp only [maxLen]; omega) (by omega) ?_
                intro R' hR'
                rw [show GA.length + (l.length - (GA.length + 1)) = GA.length + GB.length by omega] at hR' ⊢
                refine x_val rfl rfl rfl (v_assign rfl) ?_
                refine x_end ?_
                refine b_norm ?_
                exact c_norm (R', GA ++ GB, sgO 54 9 (GA ++ ⟨tg, sR, sS, sxs⟩ :: GB) ++ (rowO 49 R' ++ [(p4, Obj.cells [Value.int .i64 q0, .int .i64 q1, .int .i64 q2, .int .i64 q3].toArray 60)])) ⟨hG.out hR', (fun p hp => List.mem_append_right _ (List.mem_append_left _ hp)), fun s hs p hp => List.mem_append_left _ (mem_sgO (by rcases List.mem_append.1 hs with h | h; (· exact List.mem_append_left _ h); exact List.mem_append_right _ (List.mem_cons_of_mem _ h)) p hp)⟩ (by dsimp only; rw [List.length_append]; repeat (first | exact Sub.nil | refine Sub.cons rfl ?_)) (fun w1 h => h.to (by simp only [List.append_assoc]))
              · simp only [hb111, decide_eq_true_eq, decide_eq_false_iff_not, Bool.and_eq_true, Bool.or_eq_true, Bool.and_eq_false_iff, Bool.or_eq_false_iff, Bool.not_eq_true', Bool.not_eq_false', ne_eq, Decidable.not_not] at hc110
                refine w_seq ?_
                refine rg_text ?_
                refine x_bool rfl rfl rfl (v_eql rfl rfl) ?_
                intro b121 hb121
                refine x_val rfl rfl rfl (v_assign rfl) ?_
                refine x_end ?_
                refine t_norm ?_
                refine w_cond rfl (fun hc120 => ?_) (fun hc120 => ?_)
                · simp only [hb121, decide_eq_true_eq, decide_eq_false_iff_not, Bool.and_eq_true, Bool.or_eq_true, Bool.and_eq_false_iff, Bool.or_eq_false_iff, Bool.not_eq_true', Bool.not_eq_false', ne_eq, Decidable.not_not] at hc120
                  refine w_seq ?_
                  refine rg_text ?_
                  refine x_val rfl rfl rfl (v_indexArr (j := 2) Tryz.underlying60 sz3 rfl rfl (by first | omega | (dsimp only; omega)) rfl) ?_
                  refine x_val rfl rfl rfl (v_load Tryz.underlying3 rfl rfl (at_ownL (vs := [Value.int .i64 q0, .int .i64 q1, .int .i64 q2, .int .i64 q3]) hBm rfl)) ?_
                  refine x_val rfl rfl rfl (v_move rfl) ?_
                  refine x_val rfl rfl rfl (v_len_slice Tryz.underlying29 rfl) ?_
                  obtain ⟨m, hm, hlm⟩ := mod_nat q2 (show 0 < l.length by omega)
                  refine x_callv (v := Value.int .i64 ((m : Nat) : Int)) rfl rfl rfl Tryz.func10 (by kernel_rfl) rfl (fun w1 hw1 => by have h := c_Mod q2 ((l.length : Nat) : Int) w1 hq.2.2.1 (by omega); rw [hm] at h; exact h) ?_
                  refine x_val rfl rfl rfl (v_assign rfl) ?_
                  refine x_end ?_
                  refine t_norm ?_
                  refine rg_inv ([(p4, Obj.cells [Value.int .i64 q0, .int .i64 q1, .int .i64 q2, .int .i64 q3].toArray 60)]) 16 (.flt 0 (.flt 1 (.flt 2 (.flt 3 (.flt 4 (.flt 5 (.flt 6 (.flt 8 (.flt 9 (.flt 10 (.gr 7 (.gr 11 (.flt 12 (.gr 13 (.flt 14 (.gr 15 .done .nil)) .nil)) .nil) (.gr 11 (.gr 7 (.flt 12 (.gr 13 (.flt 14 (.gr 15 .done .nil)) .nil)) .nil) .nil)))))))))))) (by first | exact (List.sublist_append_right _ [(p4, Obj.cells [Value.int .i64 q0, .int .i64 q1, .int .i64 q2, .int .i64 q3].toArray 60)]).trans (List.sublist_append_right _ _) | exact (List.Sublist.cons _ (List.Sublist.refl [(p4, Obj.cells [Value.int .i64 q0, .int .i64 q1, .int .i64 q2, .int .i64 q3].toArray 60)])).trans (List.sublist_append_right _ _)) (by kernel_rfl) (by kernel_rfl) ?_
                  refine j_val rfl rfl (v_move rfl) ?_
                  refine j_val rfl rfl (v_move rfl) ?_
                  refine j_val rfl rfl (v_move rfl) ?_
                  refine j_val rfl rfl (v_move rfl) ?_
                  refine j_val rfl rfl (v_move rfl) ?_
                  refine j_val rfl rfl (v_move rfl) ?_
                  obtain ⟨sm, hsm⟩ : ∃ s, (GA ++ ⟨tg, sR, sS, sxs⟩ :: GB)[m]? = some s := ⟨_, List.getElem?_eq_getElem (show m < (GA ++ ⟨tg, sR, sS, sxs⟩ :: GB).length by omega)⟩
                  obtain ⟨hm1, hm2, hm3⟩ := hG.atN hsm
                  refine j_val rfl rfl (v_indexAddr Tryz.underlying29 sz49 rfl rfl hlm rfl) ?_
                  refine j_val rfl rfl (v_move rfl) ?_
                  refine j_val rfl rfl (v_move rfl) ?_
                  refine j_val rfl rfl (v_indexAddr Tryz.underlying29 sz49 rfl rfl (by omega) rfl) ?_
                  refine j_gr ?_ ?_
                  · refine x_val rfl rfl rfl (v_loadN (vs := sm.cells) Tryz.underlying49 rfl sz49 rfl (fun i hi => at_ownL (vs := csR) hRm (by match i, hi with | 0, _ => (rw [Nat.zero_add]; exact hm1) | 1, _ => (rw [Nat.zero_add]; exact hm2)))) ?_
                    refine x_end ?_
                    refine j_end (by first | exact (List.sublist_append_right _ [(p4, Obj.cells [Value.int .i64 q0, .int .i64 q1, .int .i64 q2, .int .i64 q3].toArray 60)]).trans (List.sublist_append_right _ _) | exact (List.Sublist.cons _ (List.Sublist.refl [(p4, Obj.cells [Value.int .i64 q0, .int .i64 q1, .int .i64 q2, .int .i64 q3].toArray 60)])).trans (List.sublist_append_right _ _)) ?_
                    refine j_gr ?_ j_nil
                    refine x_val rfl rfl rfl (v_loadN (vs := Sgr.cells ⟨tg, sR, sS, sxs⟩) Tryz.underlying49 rfl sz49 rfl (fun i hi => at_ownL (vs := csR) hRm (by match i, hi with | 0, _ => (rw [Nat.zero_add]; exact ha1) | 1, _ => (rw [Nat.zero_add]; exact ha2)))) ?_
                    refine x_end ?_
                    refine j_end (by first | exact (List.sublist_append_right _ [(p4, Obj.cells [Value.int .i64 q0, .int .i64 q1, .int .i64 q2, .int .i64 q3].toArray 60)]).trans (List.sublist_append_right _ _) | exact (List.Sublist.cons _ (List.Sublist.refl [(p4, Obj.cells [Value.int .i64 q0, .int .i64 q1, .int .i64 q2, .int .i64 q3].toArray 60)])).trans (List.sublist_append_right _ _)) ?_
                    refine j_val rfl rfl (v_indexAddr Tryz.underlying29 sz49 rfl rfl (by omega) rfl) ?_
                    refine j_gr ?_ j_nil
                    refine x_store (v := .agg sm.cells.toArray) (cs := csR) (off := 0 + GA.length * 2) (e := 49) (l2 := [(p4, Obj.cells [Value.int .i64 q0, .int .i64 q1, .int .i64 q2, .int .i64 q3].toArray 60)]) (sgO 54 9 (GA ++ ⟨tg, sR, sS, sxs⟩ :: GB)) rfl rfl rfl (by simp [List.append_assoc, rowO]) sz49 rfl (by omega) ?_
                    obtain ⟨cs2, hcs2⟩ : ∃ y, List.take (0 + GA.length * 2) csR ++ (Value.agg sm.cells.toArray).cells.toList ++ List.drop (0 + GA.length * 2 + 2) csR = y := ⟨_, rfl⟩
                    rw [hcs2]
                    have hG1 : SgsOK (some (bR, cs2, cR)) ((GA ++ ⟨tg, sR, sS, sxs⟩ :: GB).set GA.length sm) := by rw [← hcs2, Nat.zero_add]; exact hG.putN (by omega) (hG.sub sm (mem_at hsm))
                    obtain ⟨_, _, hm4⟩ := hG1.atN (n := m) (List.getElem?_eq_getElem (by rw [List.length_set]; omega))
                    refine x_end ?_
                    refine j_end (by first | exact (List.sublist_append_right _ [(p4, Obj.cells [Value.int .i64 q0, .int .i64 q1, .int .i64 q2, .int .i64 q3].toArray 60)]).trans (List.sublist_append_right _ _) | exact (List.Sublist.cons _ (List.Sublist.refl [(p4, Obj.cells [Value.int .i64 q0, .int .i64 q1, .int .i64 q2, .int .i64 q3].toArray 60)])).trans (List.sublist_append_right _ _)) ?_
                    refine j_val rfl rfl (v_indexAddr Tryz.underlying29 sz49 rfl rfl (hlm) rfl) ?_
                    refine j_gr ?_ j_nil
                    refine x_store (v := .agg (Sgr.cells ⟨tg, sR, sS, sxs⟩).toArray) (cs := cs2) (off := 0 + m * 2) (e := 49) (l2 := [(p4, Obj.cells [Value.int .i64 q0, .int .i64 q1, .int .i64 q2, .int .i64 q3].toArray 60)]) (sgO 54 9 (GA ++ ⟨tg, sR, sS, sxs⟩ :: GB)) rfl rfl rfl rfl sz49 rfl (by omega) ?_
                    obtain ⟨cs3, hcs3⟩ : ∃ y, List.take (0 + m * 2) cs2 ++ (Value.agg (Sgr.cells ⟨tg, sR, sS, sxs⟩).toArray).cells.toList ++ List.drop (0 + m * 2 + 2) cs2 = y := ⟨_, rfl⟩
                    rw [hcs3]
                    have hG2 : SgsOK (some (bR, cs3, cR)) (((GA ++ ⟨tg, sR, sS, sxs⟩ :: GB).set GA.length sm).set m ⟨tg, sR, sS, sxs⟩) := by rw [← hcs3, Nat.zero_add]; exact hG1.putN (by rw [List.length_set]; omega) hsg
                    refine x_end ?_
                    refine j_end (by first | exact (List.sublist_append_right _ [(p4, Obj.cells [Value.int .i64 q0, .int .i64 q1, .int .i64 q2, .int .i64 q3].toArray 60)]).trans (List.sublist_append_right _ _) | exact (List.Sublist.cons _ (List.Sublist.refl [(p4, Obj.cells [Value.int .i64 q0, .int .i64 q1, .int .i64 q2, .int .i64 q3].toArray 60)])).trans (List.sublist_append_right _ _)) ?_
                    refine j_done ?_
                    refine x_end ?_
                    refine b_norm ?_
                    exact c_norm (some (bR, cs3, cR), ((GA ++ ⟨tg, sR, sS, sxs⟩ :: GB).set GA.length sm).set m ⟨tg, sR, sS, sxs⟩, sgO 54 9 (GA ++ ⟨tg, sR, sS, sxs⟩ :: GB) ++ (rowO 49 (some (bR, cs3, cR)) ++ [(p4, Obj.cells [Value.int .i64 q0, .int .i64 q1, .int .i64 q2, .int .i64 q3].toArray 60)])) ⟨hG2, (fun p hp => List.mem_append_right _ (List.mem_append_left _ hp)), fun s hs p hp => List.mem_append_left _ (mem_sgO (by rcases in_put hs with h | rfl; (· rcases in_put h with h | rfl; (· exact h); exact mem_at hsm); simp) p hp)⟩ (by dsimp only; rw [List.length_set, List.length_set, hGl]; repeat (first | exact Sub.nil | refine Sub.cons rfl ?_)) (fun _ h => h)
                  refine j_gr ?_ j_nil
                  refine x_val rfl rfl rfl (v_loadN (vs := Sgr.cells ⟨tg, sR, sS, sxs⟩) Tryz.underlying49 rfl sz49 rfl (fun i hi => at_ownL (vs := csR) hRm (by match i, hi with | 0, _ => (rw [Nat.zero_add]; exact ha1) | 1, _ => (rw [Nat.zero_add]; exact ha2)))) ?_
                  refine x_end ?_
                  refine j_end (by first | exact (List.sublist_append_right _ [(p4, Obj.cells [Value.int .i64 q0, .int .i64 q1, .int .i64 q2, .int .i64 q3].toArray 60)]).trans (List.sublist_append_right _ _) | exact (List.Sublist.cons _ (List.Sublist.refl [(p4, Obj.cells [Value.int .i64 q0, .int .i64 q1, .int .i64 q2, .int .i64 q3].toArray 60)])).trans (List.sublist_append_right _ _)) ?_
                  refine j_gr ?_ j_nil
                  refine x_val rfl rfl rfl (v_loadN (vs := sm.cells) Tryz.underlying49 rfl sz49 rfl (fun i hi => at_ownL (vs := csR) hRm (by match i, hi with | 0, _ => (rw [Nat.zero_add]; exact hm1) | 1, _ => (rw [Nat.zero_add]; exact hm2)))) ?_
                  refine x_end ?_
                  refine j_end (by first | exact (List.sublist_append_right _ [(p4, Obj.cells [Value.int .i64 q0, .int .i64 q1, .int .i64 q2, .int .i64 q3].toArray 60)]).trans (List.sublist_append_right _ _) | exact (List.Sublist.cons _ (List.Sublist.refl [(p4, Obj.cells [Value.int .i64 q0, .int .i64 q1, .int .i64 q2, .int .i64 q3].toArray 60)])).trans (List.sublist_append_right _ _)) ?_
                  refine j_val rfl rfl (v_indexAddr Tryz.underlying29 sz49 rfl rfl (by omega) rfl) ?_
                  refine j_gr ?_ j_nil
                  refine x_store (v := .agg sm.cells.toArray) (cs := csR) (off := 0 + GA.length * 2) (e := 49) (l2 := [(p4, Obj.cells [Value.int .i64 q0, .int .i64 q1, .int .i64 q2, .int .i64 q3].toArray 60)]) (sgO 54 9 (GA ++ ⟨tg, sR, sS, sxs⟩ :: GB)) rfl rfl rfl (by simp [List.append_assoc, rowO]) sz49 rfl (by omega) ?_
                  obtain ⟨cs2, hcs2⟩ : ∃ y, List.take (0 + GA.length * 2) csR ++ (Value.agg sm.cells.toArray).cells.toList ++ List.drop (0 + GA.length * 2 + 2) csR = y := ⟨_, rfl⟩
                  rw [hcs2]
                  have hG1 : SgsOK (some (bR, cs2, cR)) ((GA ++ ⟨tg, sR, sS, sxs⟩ :: GB).set GA.length sm) := by rw [← hcs2, Nat.zero_add]; exact hG.putN (by omega) (hG.sub sm (mem_at hsm))
                  obtain ⟨_, _, hm4⟩ := hG1.atN (n := m) (List.getElem?_eq_getElem (by rw [List.length_set]; omega))
                  refine x_end ?_
                  refine j_end (by first | exact (List.sublist_append_right _ [(p4, Obj.cells [Value.int .i64 q0, .int .i64 q1, .int .i64 q2, .int .i64 q3].toArray 60)]).trans (List.sublist_append_right _ _) | exact (List.Sublist.cons _ (List.Sublist.refl [(p4, Obj.cells [Value.int .i64 q0, .int .i64 q1, .int .i64 q2, .int .i64 q3].toArray 60)])).trans (List.sublist_append_right _ _)) ?_
                  refine j_val rfl rfl (v_indexAddr Tryz.underlying29 sz49 rfl rfl (hlm) rfl) ?_
                  refine j_gr ?_ j_nil
                  refine x_store (v := .agg (Sgr.cells ⟨tg, sR, sS, sxs⟩).toArray) (cs := cs2) (off := 0 + m * 2) (e := 49) (l2 := [(p4, Obj.cells [Value.int .i64 q0, .int .i64 q1, .int .i64 q2, .int .i64 q3].toArray 60)]) (sgO 54 9 (GA ++ ⟨tg, sR, sS, sxs⟩ :: GB)) rfl rfl rfl rfl sz49 rfl (by omega) ?_
                  obtain ⟨cs3, hcs3⟩ : ∃ y, List.take (0 + m * 2) cs2 ++ (Value.agg (Sgr.cells ⟨tg, sR, sS, sxs⟩).toArray).cells.toList ++ List.drop (0 + m * 2 + 2) cs2 = y := ⟨_, rfl⟩
                  rw [hcs3]
                  have hG2 : SgsOK (some (bR, cs3, cR)) (((GA ++ ⟨tg, sR, sS, sxs⟩ :: GB).set GA.length sm).set m ⟨tg, sR, sS, sxs⟩) := by rw [← hcs3, Nat.zero_add]; exact hG1.putN (by rw [List.length_set]; omega) hsg
                  refine x_end ?_
                  refine j_end (by first | exact (List.sublist_append_right _ [(p4, Obj.cells [Value.int .i64 q0, .int .i64 q1, .int .i64 q2, .int .i64 q3].toArray 60)]).trans (List.sublist_append_right _ _) | exact (List.Sublist.cons _ (List.Sublist.refl [(p4, Obj.cells [Value.int .i64 q0, .int .i64 q1, .int .i64 q2, .int .i64 q3].toArray 60)])).trans (List.sublist_append_right _ _)) ?_
                  refine j_done ?_
                  refine x_end ?_
                  refine b_norm ?_
                  exact c_norm (some (bR, cs3, cR), ((GA ++ ⟨tg, sR, sS, sxs⟩ :: GB).set GA.length sm).set m ⟨tg, sR, sS, sxs⟩, sgO 54 9 (GA ++ ⟨tg, sR, sS, sxs⟩ :: GB) ++ (rowO 49 (some (bR, cs3, cR)) ++ [(p4, Obj.cells [Value.int .i64 q0, .int .i64 q1, .int .i64 q2, .int .i64 q3].toArray 60)])) ⟨hG2, (fun p hp => List.mem_append_right _ (List.mem_append_left _ hp)), fun s hs p hp => List.mem_append_left _ (mem_sgO (by rcases in_put hs with h | rfl; (· rcases in_put h with h | rfl; (· exact h); exact mem_at hsm); simp) p hp)⟩ (by dsimp only; rw [List.length_set, List.length_set, hGl]; repeat (first | exact Sub.nil | refine Sub.cons rfl ?_)) (fun _ h => h)
                · simp only [hb121, decide_eq_true_eq, decide_eq_false_iff_not, Bool.and_eq_true, Bool.or_eq_true, Bool.and_eq_false_iff, Bool.or_eq_false_iff, Bool.not_eq_true', Bool.not_eq_false', ne_eq, Decidable.not_not] at hc120
                  refine w_seq ?_
                  refine rg_text ?_
                  refine x_bool rfl rfl rfl (v_eql rfl rfl) ?_
                  intro b142 hb142
                  refine x_val rfl rfl rfl (v_assign rfl) ?_
                  refine x_end ?_
                  refine t_norm ?_
                  refine w_cond rfl (fun hc141 => ?_) (fun hc141 => ?_)
                  · simp only [hb142, decide_eq_true_eq, decide_eq_false_iff_not, Bool.and_eq_true, Bool.or_eq_true, Bool.and_eq_false_iff, Bool.or_eq_false_iff, Bool.not_eq_true', Bool.not_eq_false', ne_eq, Decidable.not_not] at hc141
                    refine rg_text ?_
                    refine x_val rfl rfl rfl (v_move rfl) ?_
                    refine x_val rfl rfl rfl (v_move rfl) ?_
                    refine x_val rfl rfl rfl (v_nilCheck rfl) ?_
                    refine x_val rfl rfl rfl (v_fieldAddr Tryz.underlying49 rfl sz9 (by decide) rfl rfl) ?_
                    refine x_store (cs := csR) (off := 0 + GA.length * 2) (e := 49) (l2 := [(p4, Obj.cells [Value.int .i64 q0, .int .i64 q1, .int .i64 q2, .int .i64 q3].toArray 60)]) (sgO 54 9 (GA ++ ⟨tg, sR, sS, sxs⟩ :: GB)) rfl rfl rfl (by simp [List.append_assoc, rowO]) sz9 rfl (by omega) ?_
                    rw [show 0 + GA.length * 2 = GA.length * 2 by omega]
                    refine x_end ?_
                    refine b_norm ?_
                    refine c_norm ((some (bR, List.take (GA.length * 2) csR ++ [Value.string t] ++ List.drop (GA.length * 2 + 1) csR, cR)), (GA ++ ⟨t, sR, sS, sxs⟩ :: GB), sgO 54 9 (GA ++ ⟨tg, sR, sS, sxs⟩ :: GB) ++ (rowO 49 (some (bR, List.take (GA.length * 2) csR ++ [Value.string t] ++ List.drop (GA.length * 2 + 1) csR, cR)) ++ [(p4, Obj.cells [Value.int .i64 q0, .int .i64 q1, .int .i64 q2, .int .i64 q3].toArray 60)])) ⟨hG.put_tag (okS_2 ht), (fun p hp => List.mem_append_right _ (List.mem_append_left _ hp)), fun s hs p hp => List.mem_append_left _ ?_⟩ (by dsimp only; rw [show (GA ++ ⟨t, sR, sS, sxs⟩ :: GB).length = l.length by simpa using hGl]; repeat (first | exact Sub.nil | refine Sub.cons rfl ?_)) (fun _ h => h)
                    rcases mem_mid (y := ⟨tg, sR, sS, sxs⟩) hs with rfl | hs
                    · exact mem_sgO (s := ⟨tg, sR, sS, sxs⟩) (by simp) p hp
                    · exact mem_sgO hs p hp
                  · simp only [hb142, decide_eq_true_eq, decide_eq_false_iff_not, Bool.and_eq_true, Bool.or_eq_true, Bool.and_eq_false_iff, Bool.or_eq_false_iff, Bool.not_eq_true', Bool.not_eq_false', ne_eq, Decidable.not_not] at hc141
                    refine w_skip ?_
                    refine b_norm ?_
                    exact c_norm ((some (bR, csR, cR)), _, _) ⟨hG, (fun p hp => List.mem_append_right _ (List.mem_append_left _ hp)), (fun s hs p hp => List.mem_append_left _ (mem_sgO hs p hp))⟩ (by dsimp only; rw [hGl]; repeat (first | exact Sub.nil | refine Sub.cons rfl ?_)) (fun _ h => h)
      · rintro ⟨Rz, Gz, Oz⟩ ⟨hGz, hRz, hSz⟩
        refine w_state ([(7, rowV Rz Gz.length)]) (Oz) ([(w, fun _ => True)]) ?_
        dsimp only at hGz hRz hSz
        refine w_seq ?_
        refine rg_text ?_
        refine x_val rfl rfl rfl (v_move rfl) ?_
        refine x_val rfl rfl rfl (v_assign rfl) ?_
        refine x_end ?_
        refine t_norm ?_
        refine w_ret ?_
        refine ret1 rfl rfl (fun w' hm => ⟨_, Gz.map Sgr.seg, rfl, hm.base (by simp), hGz.rd (e0 := 49) (e1 := 54) (e2 := 9) rfl hm hRz hSz (fun p hp => hm.newer (by simp) hp), hGz.big⟩)

end Go.Proofs.YtbamklefagghcaaGreatDoor

namespace Go.Proofs.YtbamklefagghcaaGreatDoor
open Go.RowKit Go.PK
set_option linter.unusedVariables false
set_option linter.unusedSimpArgs false
theorem ap29 : (Tryz.prog.info? 29).map (fun j => (j.zero, j.size, j.bytes)) = some (some (.slice none 0 0), 1, 24) := by kernel_rfl
set_option maxHeartbeats 4000000 in
set_option maxRecDepth 100000 in
theorem d8 {v : Value} {ls : List PK.Ord} {D : Nat → Prop} (w : World) (hls : sliceRd tyOrd D w v ls) (q0 q1 q2 q3 : Int) (t : ByteArray) (ht : t.size ≤ 2000000000) (hq : in64 q0 ∧ in64 q1 ∧ in64 q2 ∧ in64 q3) (hL : LD w) :
    Calls Tryz.prog 8 #[v, .agg [Value.int .i64 q0, .int .i64 q1, .int .i64 q2, .int .i64 q3].toArray, .string t] w fun e w' => e = .returned (.bool (true)) ∧ Later w w' := by
  obtain ⟨A, cp, rfl, hlc, hmx, _⟩ := id hls
  refine enter (vs := [Value.slice A ls.length cp, .agg [Value.int .i64 q0, .int .i64 q1, .int .i64 q2, .int .i64 q3].toArray, .string t]) Tryz.func8 rfl Tryz.ntmps8 rfl ?_
  refine w_seq ?_
  refine rg_text ?_
  refine x_box rfl rfl rfl rfl ?_
  intro p4
  refine x_val rfl rfl rfl (v_assign rfl) ?_
  refine x_end ?_
  refine t_norm ?_
  refine w_seq ?_
  refine rg_text ?_
  refine x_callb rfl rfl rfl Tryz.func9 (by kernel_rfl) rfl (fun w1 hw1 => c_sanity w1 (hL.later (hw1.base (by simp)))) ?_
  intro b19 hb19
  obtain rfl : b19 = true := hb19
  refine x_val rfl rfl rfl (v_assign rfl) ?_
  refine x_end ?_
  refine t_norm ?_
  refine w_seq ?_
  refine rg_text ?_
  refine x_val rfl rfl rfl (v_move rfl) ?_
  refine x_own (τ := RowS) (fun R => rowV R (cutP ls 5).length) (fun R => RowT tyOrd (fun _ => False) w R (cutP ls 5)) (fun R => rowO 25 R ++ [(p4, Obj.cells [Value.int .i64 q0, .int .i64 q1, .int .i64 q2, .int .i64 q3].toArray 60)]) rfl rfl rfl Tryz.func15 (by kernel_rfl) rfl (fun w1 hw1 => (c_cutO (ls := ls) w1 (hls.keep (Kept.later (hw1.base (by simp)))) 5 (by decide)).mono fun e w2 ⟨R, h1, h2, h3⟩ => ⟨R, h1, h2.base (by simp), h3.keep (fun k hk _ => hk.elim), hw1.join2 h2⟩) ?_
  intro R hT
  have hL5 : (cutP ls 5).length ≤ 5 := by rw [cutP_len]; omega
  refine x_val rfl rfl rfl (v_assign rfl) ?_
  refine x_end ?_
  refine t_norm ?_
  refine w_seq_cut (σ := World × RowS × List (List Seg)) (fun x => RowT (tySlice tySeg) (newD w (rowO 29 x.2.1 ++ (rowO 25 R ++ [(p4, Obj.cells [Value.int .i64 q0, .int .i64 q1, .int .i64 q2, .int .i64 q3].toArray 60)]))) x.1 x.2.1 x.2.2 ∧ (∀ l ∈ x.2.2, bigO l) ∧ x.2.2.length = 3) (fun x => [(0, rowV R (cutP ls 5).length), (2, Value.string t), (4, Value.pointer (some ⟨p4, 0, none⟩)), (7, Value.bool true), (8, rowV x.2.1 3)]) (fun x => rowO 29 x.2.1 ++ (rowO 25 R ++ [(p4, Obj.cells [Value.int .i64 q0, .int .i64 q1, .int .i64 q2, .int .i64 q3].toArray 60)])) (fun x => (x.1, notOwn (rowO 29 x.2.1 ++ (rowO 25 R ++ [(p4, Obj.cells [Value.int .i64 q0, .int .i64 q1, .int .i64 q2, .int .i64 q3].toArray 60)]))) :: [(w, fun _ => True)]) ?_ ?_
  · refine rg_tree 10 (.flt 0 (.flt 2 (.flt 3 (.flt 5 (.flt 6 (.gr 1 (.gr 4 (.gr 7 (.gr 8 (.flt 9 .done) .nil) .nil) (.gr 7 (.gr 4 (.gr 8 (.flt 9 .done) .nil) .nil) .nil)) (.gr 7 (.gr 1 (.gr 4 (.gr 8 (.flt 9 .done) .nil) .nil) .nil) .nil))))))) (by kernel_rfl) (by kernel_rfl) ?_
    refine t_flt (Q := fun _ _ _ => False) ?_
    refine x_val rfl rfl rfl (v_move rfl) ?_
    refine x_end ?_
    refine t_flt (Q := fun _ _ _ => False) ?_
    refine x_val rfl rfl rfl (v_load_blk (e := 60) (fz := (0, 0)) (cs := [Value.int .i64 q0, .int .i64 q1, .int .i64 q2, .int .i64 q3].toArray) Tryz.underlying60 rfl rfl (by first | exact List.mem_append_right _ (.head _) | exact List.mem_cons_of_mem _ (List.mem_append_right _ (.head _))) sz60) ?_
    refine x_end ?_
    refine t_flt (Q := fun _ _ _ => False) ?_
    refine x_val rfl rfl rfl (v_move rfl) ?_
    refine x_end ?_
    refine t_flt (Q := fun _ _ _ => False) ?_
    refine x_val rfl rfl rfl (v_move rfl) ?_
    refine x_end ?_
    refine t_flt (Q := fun _ _ _ => False) ?_
    refine x_val (v := Value.agg #[Value.string t, .slice none 0 0]) rfl rfl rfl (v_buildL (cs := [Value.string t, .slice none 0 0]) (places := [(0, 1), (1, 1)]) Tryz.underlying49 zr49 (by kernel_rfl) rfl rfl) ?_
    refine x_end ?_
    refine t_gr (Q := fun _ _ _ => False) ?_ ?_
    · refine x_call (R := fun v wa wb => sliceRd tySeg (fun b => wa.heap.size ≤ b) wb v (invR (cutP ls 5))) rfl rfl rfl Tryz.func17 (by kernel_rfl) rfl (fun w1 hw1 => (c_rInvoice (ls := (cutP ls 5)) w1 (hT.any (D' := fun _ => True) (e := 25) hw1 (fun p hp => by first | exact List.mem_append_left _ hp | exact List.mem_cons_of_mem _ (List.mem_append_left _ hp)) (fun _ _ => trivial) rfl)).mono fun e w2 ⟨v, h1, h2, h3⟩ => ⟨_, h1, h2, h3⟩) ?_
      intro v23 wa23 wb23 hm23 hl23 hR23
      refine x_end ?_
      refine t_gr (Q := fun _ _ _ => False) ?_ ?_
      · refine x_call (R := fun v wa wb => ∃ xs A c, v = .slice A xs.length c ∧ sliceRd tySeg (fun b => wa.heap.size ≤ b) wb v xs ∧ bigO xs) rfl rfl rfl Tryz.func26 (by kernel_rfl) rfl (fun w1 hw1 => (c_bent (l := invR (cutP ls 5)) q0 q1 q2 q3 t w1 (keep_new hR23 hw1 (by simp) hm23) (invR_big _) (inv_few _) ht hq).mono fun e w2 ⟨v, xs, h1, h2, h3, h4⟩ => by obtain ⟨A1, c1, rfl, _⟩ := id h3; exact ⟨_, h1, h2, xs, A1, c1, rfl, h3, h4⟩) ?_
        intro v26 wa26 wb26 hm26 hl26 hR26
        obtain ⟨X26, A26, c26, rfl, hX26, hB26⟩ := hR26
        refine x_end ?_
        refine t_gr (Q := fun _ _ _ => False) ?_ t_nil
        refine x_buildSliceL (cs := [Value.string t, .slice none 0 0]) rfl rfl rfl Tryz.underlying29 sz49 zr49 rfl rfl rfl ?_
        intro p29
        refine x_end ?_
        refine t_gr (Q := fun _ _ _ => False) ?_ t_nil
        refine x_buildSliceL (cs := [Value.slice A26 X26.length c26, Value.slice (some ⟨p29, 0, none⟩) 1 1, .slice none 0 0]) rfl rfl rfl Tryz.underlying62 sz29 zr29 rfl rfl rfl ?_
        intro p30
        refine x_end ?_
        refine t_flt (Q := fun _ _ _ => False) ?_
        refine x_val rfl rfl rfl (v_assign rfl) ?_
        refine x_end ?_
        refine t_done ?_
        refine x_end ?_
        have hsub : (rowO 29 (some (p30, [Value.slice A26 X26.length c26, Value.slice (some ⟨p29, 0, none⟩) 1 1, .slice none 0 0], 3)) ++ (rowO 25 R ++ [(p4, Obj.cells [Value.int .i64 q0, .int .i64 q1, .int .i64 q2, .int .i64 q3].toArray 60)])).Sublist ((p30, Obj.cells [Value.slice A26 X26.length c26, Value.slice (some ⟨p29, 0, none⟩) 1 1, .slice none 0 0].toArray 29) :: (p29, Obj.cells [Value.string t, .slice none 0 0].toArray 49) :: (rowO 25 R ++ [(p4, Obj.cells [Value.int .i64 q0, .int .i64 q1, .int .i64 q2, .int .i64 q3].toArray 60)])) := List.Sublist.cons_cons _ (List.sublist_cons_self _ _)
        refine s_fix (rowO 29 (some (p30, [Value.slice A26 X26.length c26, Value.slice (some ⟨p29, 0, none⟩) 1 1, .slice none 0 0], 3)) ++ (rowO 25 R ++ [(p4, Obj.cells [Value.int .i64 q0, .int .i64 q1, .int .i64 q2, .int .i64 q3].toArray 60)])) hsub (fun w0 hm0 => ?_)
        have hx1 : sliceRd tySeg (newD w (rowO 29 (some (p30, [Value.slice A26 X26.length c26, Value.slice (some ⟨p29, 0, none⟩) 1 1, .slice none 0 0], 3)) ++ (rowO 25 R ++ [(p4, Obj.cells [Value.int .i64 q0, .int .i64 q1, .int .i64 q2, .int .i64 q3].toArray 60)]))) w0 (Value.slice A26 X26.length c26) X26 := hX26.keep (Kept.made (hm0.less hsub (fun _ h => h)) (by simp) hm26 (hm26.base (by simp)).size)
        have hx2 := RowT.plain (w := w0) (w0 := w) (e := 49) (n := 1) [(p30, Obj.cells [Value.slice A26 X26.length c26, Value.slice (some ⟨p29, 0, none⟩) 1 1, .slice none 0 0].toArray 29)] (seg1_row (w := w0) (b := p29) (okS_2 ht)) rfl hm0 (by simp) rfl
        have hb3 : ∀ l ∈ [X26, [⟨t, []⟩], ([] : List Seg)], bigO l := by
          intro l hl
          rcases List.mem_cons.1 hl with rfl | hl
          · exact hB26
          · rcases List.mem_cons.1 hl with rfl | hl
            · intro x hx y hy
              rw [List.mem_singleton.1 hx] at hy
              cases hy
            · rw [List.mem_singleton.1 hl]
              intro x hx
              cases hx
        exact c_norm (w0, (some (p30, [Value.slice A26 X26.length c26, Value.slice (some ⟨p29, 0, none⟩) 1 1, .slice none 0 0], 3)), [X26, [⟨t, []⟩], []]) ⟨rows3 hx1 hx2 (nil_rd _ _ _), hb3, rfl⟩ (by repeat (first | exact Sub.nil | refine Sub.cons rfl ?_)) (fun w1 h => h.less (.refl _) (fun q hq => by simp at hq ⊢; rcases hq with h | h; (· simp [h]); simp [h]))
      refine t_gr (Q := fun _ _ _ => False) ?_ t_nil
      refine x_buildSliceL (cs := [Value.string t, .slice none 0 0]) rfl rfl rfl Tryz.underlying29 sz49 zr49 rfl rfl rfl ?_
      intro p29
      refine x_end ?_
      refine t_gr (Q := fun _ _ _ => False) ?_ t_nil
      refine x_call (R := fun v wa wb => ∃ xs A c, v = .slice A xs.length c ∧ sliceRd tySeg (fun b => wa.heap.size ≤ b) wb v xs ∧ bigO xs) rfl rfl rfl Tryz.func26 (by kernel_rfl) rfl (fun w1 hw1 => (c_bent (l := invR (cutP ls 5)) q0 q1 q2 q3 t w1 (keep_new hR23 hw1 (by simp) hm23) (invR_big _) (inv_few _) ht hq).mono fun e w2 ⟨v, xs, h1, h2, h3, h4⟩ => by obtain ⟨A1, c1, rfl, _⟩ := id h3; exact ⟨_, h1, h2, xs, A1, c1, rfl, h3, h4⟩) ?_
      intro v26 wa26 wb26 hm26 hl26 hR26
      obtain ⟨X26, A26, c26, rfl, hX26, hB26⟩ := hR26
      refine x_end ?_
      refine t_gr (Q := fun _ _ _ => False) ?_ t_nil
      refine x_buildSliceL (cs := [Value.slice A26 X26.length c26, Value.slice (some ⟨p29, 0, none⟩) 1 1, .slice none 0 0]) rfl rfl rfl Tryz.underlying62 sz29 zr29 rfl rfl rfl ?_
      intro p30
      refine x_end ?_
      refine t_flt (Q := fun _ _ _ => False) ?_
      refine x_val rfl rfl rfl (v_assign rfl) ?_
      refine x_end ?_
      refine t_done ?_
      refine x_end ?_
      have hsub : (rowO 29 (some (p30, [Value.slice A26 X26.length c26, Value.slice (some ⟨p29, 0, none⟩) 1 1, .slice none 0 0], 3)) ++ (rowO 25 R ++ [(p4, Obj.cells [Value.int .i64 q0, .int .i64 q1, .int .i64 q2, .int .i64 q3].toArray 60)])).Sublist ((p30, Obj.cells [Value.slice A26 X26.length c26, Value.slice (some ⟨p29, 0, none⟩) 1 1, .slice none 0 0].toArray 29) :: (p29, Obj.cells [Value.string t, .slice none 0 0].toArray 49) :: (rowO 25 R ++ [(p4, Obj.cells [Value.int .i64 q0, .int .i64 q1, .int .i64 q2, .int .i64 q3].toArray 60)])) := List.Sublist.cons_cons _ (List.sublist_cons_self _ _)
      refine s_fix (rowO 29 (some (p30, [Value.slice A26 X26.length c26, Value.slice (some ⟨p29, 0, none⟩) 1 1, .slice none 0 0], 3)) ++ (rowO 25 R ++ [(p4, Obj.cells [Value.int .i64 q0, .int .i64 q1, .int .i64 q2, .int .i64 q3].toArray 60)])) hsub (fun w0 hm0 => ?_)
      have hx1 : sliceRd tySeg (newD w (rowO 29 (some (p30, [Value.slice A26 X26.length c26, Value.slice (some ⟨p29, 0, none⟩) 1 1, .slice none 0 0], 3)) ++ (rowO 25 R ++ [(p4, Obj.cells [Value.int .i64 q0, .int .i64 q1, .int .i64 q2, .int .i64 q3].toArray 60)]))) w0 (Value.slice A26 X26.length c26) X26 := hX26.keep (Kept.made (hm0.less hsub (fun _ h => h)) (by simp) hm26 (hm26.base (by simp)).size)
      have hx2 := RowT.plain (w := w0) (w0 := w) (e := 49) (n := 1) [(p30, Obj.cells [Value.slice A26 X26.length c26, Value.slice (some ⟨p29, 0, none⟩) 1 1, .slice none 0 0].toArray 29)] (seg1_row (w := w0) (b := p29) (okS_2 ht)) rfl hm0 (by simp) rfl
      have hb3 : ∀ l ∈ [X26, [⟨t, []⟩], ([] : List Seg)], bigO l := by
        intro l hl
        rcases List.mem_cons.1 hl with rfl | hl
        · exact hB26
        · rcases List.mem_cons.1 hl with rfl | hl
          · intro x hx y hy
            rw [List.mem_singleton.1 hx] at hy
            cases hy
          · rw [List.mem_singleton.1 hl]
            intro x hx
            cases hx
      exact c_norm (w0, (some (p30, [Value.slice A26 X26.length c26, Value.slice (some ⟨p29, 0, none⟩) 1 1, .slice none 0 0], 3)), [X26, [⟨t, []⟩], []]) ⟨rows3 hx1 hx2 (nil_rd _ _ _), hb3, rfl⟩ (by repeat (first | exact Sub.nil | refine Sub.cons rfl ?_)) (fun w1 h => h.less (.refl _) (fun q hq => by simp at hq ⊢; rcases hq with h | h; (· simp [h]); simp [h]))
    refine t_gr (Q := fun _ _ _ => False) ?_ t_nil
    refine x_buildSliceL (cs := [Value.string t, .slice none 0 0]) rfl rfl rfl Tryz.underlying29 sz49 zr49 rfl rfl rfl ?_
    intro p29
    refine x_end ?_
    refine t_gr (Q := fun _ _ _ => False) ?_ t_nil
    refine x_call (R := fun v wa wb => sliceRd tySeg (fun b => wa.heap.size ≤ b) wb v (invR (cutP ls 5))) rfl rfl rfl Tryz.func17 (by kernel_rfl) rfl (fun w1 hw1 => (c_rInvoice (ls := (cutP ls 5)) w1 (hT.any (D' := fun _ => True) (e := 25) hw1 (fun p hp => by first | exact List.mem_append_left _ hp | exact List.mem_cons_of_mem _ (List.mem_append_left _ hp)) (fun _ _ => trivial) rfl)).mono fun e w2 ⟨v, h1, h2, h3⟩ => ⟨_, h1, h2, h3⟩) ?_
    intro v23 wa23 wb23 hm23 hl23 hR23
    refine x_end ?_
    refine t_gr (Q := fun _ _ _ => False) ?_ t_nil
    refine x_call (R := fun v wa wb => ∃ xs A c, v = .slice A xs.length c ∧ sliceRd tySeg (fun b => wa.heap.size ≤ b) wb v xs ∧ bigO xs) rfl rfl rfl Tryz.func26 (by kernel_rfl) rfl (fun w1 hw1 => (c_bent (l := invR (cutP ls 5)) q0 q1 q2 q3 t w1 (keep_new hR23 hw1 (by simp) hm23) (invR_big _) (inv_few _) ht hq).mono fun e w2 ⟨v, xs, h1, h2, h3, h4⟩ => by obtain ⟨A1, c1, rfl, _⟩ := id h3; exact ⟨_, h1, h2, xs, A1, c1, rfl, h3, h4⟩) ?_
    intro v26 wa26 wb26 hm26 hl26 hR26
    obtain ⟨X26, A26, c26, rfl, hX26, hB26⟩ := hR26
    refine x_end ?_
    refine t_gr (Q := fun _ _ _ => False) ?_ t_nil
    refine x_buildSliceL (cs := [Value.slice A26 X26.length c26, Value.slice (some ⟨p29, 0, none⟩) 1 1, .slice none 0 0]) rfl rfl rfl Tryz.underlying62 sz29 zr29 rfl rfl rfl ?_
    intro p30
    refine x_end ?_
    refine t_flt (Q := fun _ _ _ => False) ?_
    refine x_val rfl rfl rfl (v_assign rfl) ?_
    refine x_end ?_
    refine t_done ?_
    refine x_end ?_
    have hsub : (rowO 29 (some (p30, [Value.slice A26 X26.length c26, Value.slice (some ⟨p29, 0, none⟩) 1 1, .slice none 0 0], 3)) ++ (rowO 25 R ++ [(p4, Obj.cells [Value.int .i64 q0, .int .i64 q1, .int .i64 q2, .int .i64 q3].toArray 60)])).Sublist ((p30, Obj.cells [Value.slice A26 X26.length c26, Value.slice (some ⟨p29, 0, none⟩) 1 1, .slice none 0 0].toArray 29) :: (p29, Obj.cells [Value.string t, .slice none 0 0].toArray 49) :: (rowO 25 R ++ [(p4, Obj.cells [Value.int .i64 q0, .int .i64 q1, .int .i64 q2, .int .i64 q3].toArray 60)])) := List.Sublist.cons_cons _ (List.sublist_cons_self _ _)
    refine s_fix (rowO 29 (some (p30, [Value.slice A26 X26.length c26, Value.slice (some ⟨p29, 0, none⟩) 1 1, .slice none 0 0], 3)) ++ (rowO 25 R ++ [(p4, Obj.cells [Value.int .i64 q0, .int .i64 q1, .int .i64 q2, .int .i64 q3].toArray 60)])) hsub (fun w0 hm0 => ?_)
    have hx1 : sliceRd tySeg (newD w (rowO 29 (some (p30, [Value.slice A26 X26.length c26, Value.slice (some ⟨p29, 0, none⟩) 1 1, .slice none 0 0], 3)) ++ (rowO 25 R ++ [(p4, Obj.cells [Value.int .i64 q0, .int .i64 q1, .int .i64 q2, .int .i64 q3].toArray 60)]))) w0 (Value.slice A26 X26.length c26) X26 := hX26.keep (Kept.made (hm0.less hsub (fun _ h => h)) (by simp) hm26 (hm26.base (by simp)).size)
    have hx2 := RowT.plain (w := w0) (w0 := w) (e := 49) (n := 1) [(p30, Obj.cells [Value.slice A26 X26.length c26, Value.slice (some ⟨p29, 0, none⟩) 1 1, .slice none 0 0].toArray 29)] (seg1_row (w := w0) (b := p29) (okS_2 ht)) rfl hm0 (by simp) rfl
    have hb3 : ∀ l ∈ [X26, [⟨t, []⟩], ([] : List Seg)], bigO l := by
      intro l hl
      rcases List.mem_cons.1 hl with rfl | hl
      · exact hB26
      · rcases List.mem_cons.1 hl with rfl | hl
        · intro x hx y hy
          rw [List.mem_singleton.1 hx] at hy
          cases hy
        · rw [List.mem_singleton.1 hl]
          intro x hx
          cases hx
    exact c_norm (w0, (some (p30, [Value.slice A26 X26.length c26, Value.slice (some ⟨p29, 0, none⟩) 1 1, .slice none 0 0], 3)), [X26, [⟨t, []⟩], []]) ⟨rows3 hx1 hx2 (nil_rd _ _ _), hb3, rfl⟩ (by repeat (first | exact Sub.nil | refine Sub.cons rfl ?_)) (fun w1 h => h.less (.refl _) (fun q hq => by simp at hq ⊢; rcases hq with h | h; (· simp [h]); simp [h]))
  · rintro ⟨ws, r8, XS⟩ ⟨hX, hXB, hXl⟩
    refine w_state ([(0, rowV R (cutP ls 5).length), (2, Value.string t), (4, Value.pointer (some ⟨p4, 0, none⟩)), (7, Value.bool true), (8, rowV r8 3)]) (rowO 29 r8 ++ (rowO 25 R ++ [(p4, Obj.cells [Value.int .i64 q0, .int .i64 q1, .int .i64 q2, .int .i64 q3].toArray 60)])) ((ws, notOwn (rowO 29 r8 ++ (rowO 25 R ++ [(p4, Obj.cells [Value.int .i64 q0, .int .i64 q1, .int .i64 q2, .int .i64 q3].toArray 60)]))) :: [(w, fun _ => True)]) ?_
    dsimp only at hX hXB hXl
    refine w_seq_cut (σ := World × RowS × List (List Seg)) (fun x => RowT (tySlice tySeg) (newD w (rowO 29 x.2.1)) x.1 x.2.1 x.2.2 ∧ (∀ l ∈ x.2.2, bigO l) ∧ x.2.2.length ≤ 4) (fun x => [(7, Value.bool true), (8, rowV x.2.1 x.2.2.length)]) (fun x => rowO 29 x.2.1) (fun x => (x.1, notOwn (rowO 29 x.2.1)) :: [(w, fun _ => True)]) ?_ ?_
    · refine w_seq ?_
      refine rg_text ?_
      refine x_val rfl rfl rfl (v_move rfl) ?_
      refine x_val rfl rfl rfl (v_len_slice Tryz.underlying28 rfl) ?_
      refine x_bool rfl rfl rfl (v_gtr rfl rfl) ?_
      intro b33 hb33
      refine x_end ?_
      refine t_norm ?_
      refine w_cond rfl (fun hc33 => ?_) (fun hc33 => ?_)
      · simp only [hb33, decide_eq_true_eq, decide_eq_false_iff_not, Bool.and_eq_true, Bool.or_eq_true, Bool.and_eq_false_iff, Bool.or_eq_false_iff, Bool.not_eq_true', Bool.not_eq_false', ne_eq, Decidable.not_not] at hc33
        have hn0 : 0 < (cutP ls 5).length := by omega
        obtain ⟨bL, csL, cL, o0, rfl, hcl, ho0, hok0⟩ := head_row hT hn0
        refine w_seq ?_
        refine rg_text ?_
        refine x_val rfl rfl rfl (v_move rfl) ?_
        refine x_val rfl rfl rfl (v_indexAddr (j := 0) Tryz.underlying28 sz25 rfl rfl (by first | omega | (dsimp only; omega)) rfl) ?_
        refine x_val rfl rfl rfl (v_fieldAddr Tryz.underlying25 rfl sz3 (by decide) rfl rfl) ?_
        refine x_store (cs := csL) (off := 0 + 0 * 9 + 1) (e := 25) (l2 := [(p4, Obj.cells [Value.int .i64 q0, .int .i64 q1, .int .i64 q2, .int .i64 q3].toArray 60)]) (rowO 29 r8) rfl rfl rfl rfl sz3 rfl (by omega) ?_
        rw [show List.take (0 + 0 * 9 + 1) csL ++ (Value.int .i64 3).cells.toList ++ List.drop (0 + 0 * 9 + 1 + 1) csL = (csL.set 1 (Value.int .i64 3)) from put1 (k := 1) (by omega)]
        refine x_end ?_
        refine t_norm ?_
        refine rg_draw 9 [(true, 0), (true, 1), (true, 2), (true, 3), (true, 5), (true, 6), (false, 4), (false, 7), (false, 8)] (by kernel_rfl) (by kernel_rfl) ?_
        refine x_val rfl rfl rfl (v_move rfl) ?_
        refine x_val rfl rfl rfl (v_move rfl) ?_
        refine x_val rfl rfl rfl (v_indexAddr (j := 0) Tryz.underlying28 sz25 rfl rfl (by first | omega | (dsimp only; omega)) rfl) ?_
        refine x_val rfl rfl rfl (v_loadN (vs := (fund3 o0).cells) Tryz.underlying25 rfl sz25 rfl (fun i hi => at_ownL (vs := (csL.set 1 (Value.int .i64 3))) (List.mem_append_right _ (.head _)) (by rw [show 0 + 0 * 9 + i = i by omega]; exact fund3_at hcl ho0 i hi))) ?_
        refine x_val rfl rfl rfl (v_load_blk (e := 60) (fz := (0, 0)) (cs := [Value.int .i64 q0, .int .i64 q1, .int .i64 q2, .int .i64 q3].toArray) Tryz.underlying60 rfl rfl (List.mem_append_right _ (.tail _ (.head _))) sz60) ?_
        refine x_val rfl rfl rfl (v_move rfl) ?_
        refine x_call (R := fun v wa wb => sliceRd tySeg (fun b => wa.heap.size ≤ b) wb v (orderR (fund3 o0))) rfl rfl rfl Tryz.func13 (by kernel_rfl) rfl (fun w1 hw1 => (c_rOrder (fund3 o0) w1 (fund3_ok hok0).1).mono fun e w2 ⟨v, h1, h2, h3, _⟩ => ⟨_, h1, h2, h3⟩) ?_
        intro v41 wa41 wb41 hm41 hl41 hR41
        refine x_call (R := fun v wa wb => ∃ xs A c, v = .slice A xs.length c ∧ sliceRd tySeg (fun b => wa.heap.size ≤ b) wb v xs ∧ bigO xs) rfl rfl rfl Tryz.func26 (by kernel_rfl) rfl (fun w1 hw1 => (c_bent (l := orderR (fund3 o0)) q0 q1 q2 q3 t w1 (keep_new hR41 hw1 (by simp) hm41) (order_big _) (order_few _) ht hq).mono fun e w2 ⟨v, xs, h1, h2, h3, h4⟩ => by obtain ⟨A1, c1, rfl, _⟩ := id h3; exact ⟨_, h1, h2, xs, A1, c1, rfl, h3, h4⟩) ?_
        intro v44 wa44 wb44 hm44 hl44 hR44
        obtain ⟨X44, A44, c44, rfl, hX44, hB44⟩ := hR44
        refine x_buildSliceL (cs := [Value.slice A44 X44.length c44]) rfl rfl rfl Tryz.underlying62 sz29 zr29 rfl rfl rfl ?_
        intro p45
        obtain ⟨css, hcl8, hrw8, hrd8⟩ := id hX
        rw [hXl] at hcl8 hrw8
        refine x_append (e := 29) [(p45, Obj.cells [Value.slice A44 X44.length c44].toArray 29)] (l2 := ((bL, Obj.cells (csL.set 1 (Value.int .i64 3)).toArray 25) :: [(p4, Obj.cells [Value.int .i64 q0, .int .i64 q1, .int .i64 q2, .int .i64 q3].toArray 60)])) r8 (len := 3) (xs := css.flatten) rfl rfl rfl rfl (by simp) hrw8 Tryz.underlying62 ap29 rfl rfl (m := 1) (news := [Value.slice A44 X44.length c44]) (fun i hi => at_ownL (vs := [Value.slice A44 X44.length c44]) (.head _) (by rw [Nat.zero_add]; exact List.getElem?_eq_getElem hi)) rfl (by simp only [maxLen]; omega) (by omega) ?_
        intro r9 hr9
        refine x_val rfl rfl rfl (v_assign rfl) ?_
        refine x_end ?_
        have hsub : (rowO 29 r9).Sublist ([(p45, Obj.cells [Value.slice A44 X44.length c44].toArray 29)] ++ rowO 29 r9 ++ ((bL, Obj.cells (csL.set 1 (Value.int .i64 3)).toArray 25) :: [(p4, Obj.cells [Value.int .i64 q0, .int .i64 q1, .int .i64 q2, .int .i64 q3].toArray 60)])) := (List.sublist_append_right _ _).trans (List.sublist_append_left _ _)
        refine s_fix (rowO 29 r9) hsub (fun w0 hm0 => ?_)
        have hX9 : RowT (tySlice tySeg) (newD w (rowO 29 r9)) w0 r9 (XS ++ [X44]) := snocN (T := tySlice tySeg) (n := 3) hXl hcl8 (fun j h1 h2 => (tySlice tySeg).keep (hrd8 j h1 h2) (Kept.frz hm0 hsub (.tail _ (.tail _ (.head _))))) hr9 ⟨_, rfl, hX44.keep (Kept.made (hm0.less hsub (fun _ h => h)) (.head _) hm44 (hm44.base (by simp)).size)⟩
        exact c_norm (w0, r9, XS ++ [X44]) ⟨hX9, fun l hl => by rcases List.mem_append.1 hl with h | h; (· exact hXB l h); rw [List.mem_singleton.1 h]; exact hB44, by dsimp only; rw [List.length_append, hXl]; exact Nat.le_refl 4⟩ (by dsimp only; rw [show (XS ++ [X44]).length = 3 + 1 by rw [List.length_append, hXl]; rfl]; repeat (first | exact Sub.nil | refine Sub.cons rfl ?_)) (fun w1 h => h.less (.refl _) (fun q hq => by simp at hq ⊢; rcases hq with h | h; (· simp [h]); simp [h]))
      · simp only [hb33, decide_eq_true_eq, decide_eq_false_iff_not, Bool.and_eq_true, Bool.or_eq_true, Bool.and_eq_false_iff, Bool.or_eq_false_iff, Bool.not_eq_true', Bool.not_eq_false', ne_eq, Decidable.not_not] at hc33
        refine w_skip ?_
        have hsub : (rowO 29 r8).Sublist (rowO 29 r8 ++ (rowO 25 R ++ [(p4, Obj.cells [Value.int .i64 q0, .int .i64 q1, .int .i64 q2, .int .i64 q3].toArray 60)])) := List.sublist_append_left _ _
        refine s_fix (rowO 29 r8) hsub (fun w0 hm0 => ?_)
        exact c_norm (w0, r8, XS) ⟨hX.keep (Kept.frz hm0 hsub (.head _)), hXB, by dsimp only; omega⟩ (by dsimp only; rw [hXl]; repeat (first | exact Sub.nil | refine Sub.cons rfl ?_)) (fun w1 h => h.less (.refl _) (fun q hq => by simp at hq ⊢; rcases hq with h | h; (· simp [h]); simp [h]))
    · rintro ⟨ws, r8, XS⟩ ⟨hX, hXB, hXl⟩
      refine w_state ([(7, Value.bool true), (8, rowV r8 XS.length)]) (rowO 29 r8) ((ws, notOwn (rowO 29 r8)) :: [(w, fun _ => True)]) ?_
      dsimp only at hX hXB hXl
      refine w_seq ?_
      refine w_seq ?_
      refine rg_text ?_
      refine x_val rfl rfl rfl (v_move rfl) ?_
      refine x_val rfl rfl rfl (v_len_slice Tryz.underlying62 rfl) ?_
      refine x_val rfl rfl rfl (v_move rfl) ?_
      refine x_end ?_
      refine t_norm ?_
      refine w_block ?_
      have hsub : List.Sublist ([] : List (Nat × Obj)) (rowO 29 r8) := List.nil_sublist _
      refine w_fix [] hsub (fun w0 hm0 => ?_)
      have hA : sliceRd (tySlice tySeg) (newD w []) w0 (rowV r8 XS.length) XS := (hX.keep (Kept.frz hm0 hsub (by simp))).rd (e := 29) hm0 (fun p hp => hp) (fun _ h => h) (fun p hp => ⟨hm0.newer (by simp) hp, fun q hq => by cases hq⟩) rfl
      refine w_loop (σ := Nat) (fun k => k ≤ XS.length) (fun k => [(7, Value.bool true), (47, rowV r8 XS.length), (48, Value.int .i64 (XS.length : Nat)), (49, Value.int .i64 (k : Nat))]) (fun k => []) (fun k => [(w0, notOwn []), (w, fun _ => True)]) (fun k => XS.length - k) (0) (Nat.zero_le _) (l_start (by repeat (first | exact Sub.nil | refine Sub.cons rfl ?_)) (fun _ h => h.less (.refl _) (fun q hq => by simp at hq ⊢; rcases hq with h | h; (· simp [h]); simp [h]))) ?_
      rintro k hk
      refine w_state ([(7, Value.bool true), (47, rowV r8 XS.length), (48, Value.int .i64 (XS.length : Nat)), (49, Value.int .i64 (k : Nat))]) ([]) ([(w0, notOwn []), (w, fun _ => True)]) ?_
      refine w_seq ?_
      refine rg_text ?_
      refine x_bool rfl rfl rfl (v_lss rfl rfl) ?_
      intro b50 hb50
      refine x_end ?_
      refine t_norm ?_
      refine w_seq ?_
      refine w_cond rfl (fun hc50 => ?_) (fun hc50 => ?_)
      · simp only [hb50, decide_eq_true_eq, decide_eq_false_iff_not, Bool.and_eq_true, Bool.or_eq_true, Bool.and_eq_false_iff, Bool.or_eq_false_iff, Bool.not_eq_true', Bool.not_eq_false', ne_eq, Decidable.not_not] at hc50
        have hkn : k < XS.length := by omega
        obtain ⟨b0, o0, lv, hA0, hD0, hc0, hl⟩ := sl_at (A := rowA r8) (c := rowC r8) hA hkn
        obtain ⟨lA, lc, rfl, _⟩ := id hl
        have hbl := hXB _ (List.getElem_mem hkn)
        refine w_skip ?_
        refine t_norm ?_
        refine w_seq ?_
        refine w_block ?_
        refine w_seq ?_
        refine rg_text ?_
        refine x_val rfl rfl rfl (v_indexAddr Tryz.underlying62 sz29 (congrArg (fun A => some (Value.slice A XS.length (rowC r8))) hA0) rfl (hkn) rfl) ?_
        refine x_val rfl rfl rfl (v_load Tryz.underlying29 rfl rfl (at_ro (.head _) hD0.2 (by rw [Nat.mul_one]; exact hc0))) ?_
        refine x_val rfl rfl rfl (v_assign rfl) ?_
        refine x_end ?_
        refine t_norm ?_
        refine w_seq ?_
        refine rg_text ?_
        refine x_val rfl rfl rfl (v_move rfl) ?_
        refine x_callv rfl rfl rfl Tryz.func14 (by kernel_rfl) rfl (fun w1 hw1 => c_ReadOrder (l := XS[k]) w1 (hl.keep (Kept.new hw1 (by simp))) hbl (hL.later (hw1.base (by simp)))) ?_
        refine x_val rfl rfl rfl (v_move rfl) ?_
        refine x_val rfl rfl rfl (v_extract rfl rfl) ?_
        refine x_val rfl rfl rfl (v_extract rfl rfl) ?_
        refine x_alloc rfl rfl rfl zr25 ?_
        intro p11
        refine x_store0 [] rfl rfl rfl rfl sz25 rfl rfl ?_
        refine x_val rfl rfl rfl (v_assign rfl) ?_
        refine x_end ?_
        refine t_norm ?_
        refine w_seq ?_
        refine rg_text ?_
        refine x_val rfl rfl rfl (v_move rfl) ?_
        refine x_callv rfl rfl rfl Tryz.func27 (by kernel_rfl) rfl (fun w1 hw1 => c_rReadOrder (l := XS[k]) w1 (hl.keep (Kept.new hw1 (by simp)))) ?_
        refine x_val rfl rfl rfl (v_move rfl) ?_
        refine x_val rfl rfl rfl (v_extract rfl rfl) ?_
        refine x_val rfl rfl rfl (v_extract rfl rfl) ?_
        refine x_alloc rfl rfl rfl zr25 ?_
        intro p13
        refine x_store0 [] rfl rfl rfl rfl sz25 rfl rfl ?_
        refine x_val rfl rfl rfl (v_assign rfl) ?_
        refine x_end ?_
        refine t_norm ?_
        refine w_seq ?_
        refine w_state _ [(p13, Obj.cells (rrO XS[k]).1.cells.toArray 25), (p11, Obj.cells (rdO XS[k]).1.cells.toArray 25)] _ ?_
        refine rg_text ?_
        refine x_val rfl rfl rfl (v_move rfl) ?_
        refine x_call (R := fun v wa wb => ∃ A1 c1, v = .tuple #[.slice A1 (rdI XS[k]).1.length c1, .int .i64 (rdI XS[k]).2] ∧ sliceRd tyOrd (fun b => wa.heap.size ≤ b) wb (.slice A1 (rdI XS[k]).1.length c1) (rdI XS[k]).1) rfl rfl rfl Tryz.func18 (by kernel_rfl) rfl (fun w1 hw1 => (c_ReadInvoice (l := XS[k]) w1 (hl.keep (Kept.new hw1 (by simp))) hbl (hL.later (hw1.base (by simp)))).mono fun e w2 ⟨q, h1, h2, h3⟩ => by obtain ⟨A1, c1, rfl, _⟩ := id h3; exact ⟨_, h1, h2, A1, c1, rfl, h3⟩) ?_
        intro v65 wa65 wb65 hm65 hl65 hR65
        obtain ⟨A65, c65, rfl, hr65⟩ := hR65
        refine x_val rfl rfl rfl (v_move rfl) ?_
        refine x_val rfl rfl rfl (v_extract rfl rfl) ?_
        refine x_val rfl rfl rfl (v_extract rfl rfl) ?_
        refine x_val rfl rfl rfl (v_assign rfl) ?_
        refine x_val rfl rfl rfl (v_assign rfl) ?_
        refine x_end ?_
        refine t_norm ?_
        refine w_seq ?_
        refine rg_text ?_
        refine x_val rfl rfl rfl (v_move rfl) ?_
        refine x_call (R := fun v wa wb => ∃ A1 c1, v = .tuple #[.slice A1 (rrI XS[k]).1.length c1, .int .i64 (rrI XS[k]).2] ∧ sliceRd tyOrd (fun b => wa.heap.size ≤ b) wb (.slice A1 (rrI XS[k]).1.length c1) (rrI XS[k]).1) rfl rfl rfl Tryz.func28 (by kernel_rfl) rfl (fun w1 hw1 => (c_rReadInvoice (l := XS[k]) w1 (hl.keep (Kept.new hw1 (by simp)))).mono fun e w2 ⟨q, h1, h2, h3⟩ => by obtain ⟨A1, c1, rfl, _⟩ := id h3; exact ⟨_, h1, h2, A1, c1, rfl, h3⟩) ?_
        intro v70 wa70 wb70 hm70 hl70 hR70
        obtain ⟨A70, c70, rfl, hr70⟩ := hR70
        refine x_val rfl rfl rfl (v_move rfl) ?_
        refine x_val rfl rfl rfl (v_extract rfl rfl) ?_
        refine x_val rfl rfl rfl (v_extract rfl rfl) ?_
        refine x_val rfl rfl rfl (v_assign rfl) ?_
        refine x_val rfl rfl rfl (v_assign rfl) ?_
        refine x_end ?_
        refine t_norm ?_
        refine w_seq ?_
        refine rg_text ?_
        refine x_val rfl rfl rfl (v_move rfl) ?_
        refine x_val rfl rfl rfl (v_move rfl) ?_
        refine x_bool rfl rfl rfl (v_neq rfl rfl) ?_
        intro b75 hb75
        refine x_val rfl rfl rfl (v_move rfl) ?_
        refine x_if [] rfl rfl rfl rfl rfl (v := Value.agg (rdO XS[k]).1.cells.toArray) (fun hg => by obtain ⟨hg0, _⟩ := hg; subst hg0; (try simp only [List.cons_append, List.nil_append, gvl_nil, gvl_t, gvl_f]); exact v_load_blk (b := p11) (e := 25) (fz := (0, 0)) (cs := (rdO XS[k]).1.cells.toArray) Tryz.underlying25 rfl rfl (.tail _ (.head _)) sz25) ?_
        refine x_if [] rfl rfl rfl rfl rfl (v := Value.agg (rrO XS[k]).1.cells.toArray) (fun hg => by obtain ⟨hg0, _⟩ := hg; subst hg0; (try simp only [List.cons_append, List.nil_append, gvl_nil, gvl_t, gvl_f]); exact v_load_blk (b := p13) (e := 25) (fz := (0, 0)) (cs := (rrO XS[k]).1.cells.toArray) Tryz.underlying25 rfl rfl (.head _) sz25) ?_
        refine x_ifb [] rfl rfl rfl rfl rfl (fun hg => by obtain ⟨hg0, _⟩ := hg; subst hg0; (try simp only [List.cons_append, List.nil_append, gvl_nil, gvl_t, gvl_f]); exact v_neA (by kernel_rfl) rfl rfl (fun w1 => eq25 w1 (rdO XS[k]).1 (rrO XS[k]).1)) ?_
        intro b79 hb79
        refine x_bool rfl rfl rfl (v_or rfl rfl) ?_
        intro b80 hb80
        refine x_val rfl rfl rfl (v_move rfl) ?_
        refine x_if [] rfl rfl rfl rfl rfl (fun hg => by obtain ⟨hg0, _⟩ := hg; subst hg0; (try simp only [List.cons_append, List.nil_append, gvl_nil, gvl_t, gvl_f]); exact v_move rfl) ?_
        refine x_if [] rfl rfl rfl rfl rfl (fun hg => by obtain ⟨hg0, _⟩ := hg; subst hg0; (try simp only [List.cons_append, List.nil_append, gvl_nil, gvl_t, gvl_f]); exact v_move rfl) ?_
        refine x_ifb [] rfl rfl rfl rfl rfl (fun hg => by obtain ⟨hg0, _⟩ := hg; subst hg0; (try simp only [List.cons_append, List.nil_append, gvl_nil, gvl_t, gvl_f]); exact v_neq rfl rfl) ?_
        intro b84 hb84
        refine x_bool rfl rfl rfl (v_or rfl rfl) ?_
        intro b85 hb85
        refine x_val rfl rfl rfl (v_move rfl) ?_
        refine x_if [] rfl rfl rfl rfl rfl (fun hg => by obtain ⟨hg0, _⟩ := hg; subst hg0; (try simp only [List.cons_append, List.nil_append, gvl_nil, gvl_t, gvl_f]); exact v_move rfl) ?_
        refine x_if [] rfl rfl rfl rfl rfl (fun hg => by obtain ⟨hg0, _⟩ := hg; subst hg0; (try simp only [List.cons_append, List.nil_append, gvl_nil, gvl_t, gvl_f]); exact v_move rfl) ?_
        refine x_call_ifb [] (c := decide ((rdI XS[k]).1 = (rrI XS[k]).1)) rfl rfl rfl rfl rfl Tryz.func25 (by kernel_rfl) (fun hg => by obtain ⟨hg0, _⟩ := hg; subst hg0; (try simp only [List.cons_append, List.nil_append, gvl_nil, gvl_t, gvl_f]); refine ⟨_, rfl, ?_⟩; exact fun w1 hw1 => c_Orders (xs := (rdI XS[k]).1) (ys := (rrI XS[k]).1) w1 (keep_new hr65 hw1 (by repeat (first | exact List.Mem.head _ | apply List.Mem.tail)) hm65) (keep_new hr70 hw1 (by repeat (first | exact List.Mem.head _ | apply List.Mem.tail)) hm70)) ?_
        intro b89 hb89
        refine x_ifb [] rfl rfl rfl rfl rfl (fun hg => by obtain ⟨hg0, _⟩ := hg; subst hg0; (try simp only [List.cons_append, List.nil_append, gvl_nil, gvl_t, gvl_f]); exact v_not rfl) ?_
        intro b90 hb90
        refine x_bool rfl rfl rfl (v_or rfl rfl) ?_
        intro b91 hb91
        refine x_end ?_
        refine t_norm ?_
        refine w_cond rfl (fun hc91 => ?_) (fun hc91 => ?_)
        · exfalso
          rw [hb91, hb90, hb89, hb85, hb84, hb80, hb79, hb75, rd_eq, rdI_eq] at hc91
          simp at hc91
        · simp only [hb91, hb90, hb89, hb85, hb84, hb80, hb79, hb75, decide_eq_true_eq, decide_eq_false_iff_not, Bool.and_eq_true, Bool.or_eq_true, Bool.and_eq_false_iff, Bool.or_eq_false_iff, Bool.not_eq_true', Bool.not_eq_false', ne_eq, Decidable.not_not] at hc91
          refine w_skip ?_
          refine b_norm ?_
          refine t_norm ?_
          refine rg_text ?_
          refine x_val rfl rfl rfl (v_addi rfl rfl rfl (by first | omega | (dsimp only; omega))) ?_
          refine x_val rfl rfl rfl (v_move rfl) ?_
          refine x_end ?_
          exact l_norm (k + 1) (show k + 1 ≤ XS.length by omega) (by omega) (by repeat (first | exact Sub.nil | refine Sub.cons rfl ?_)) (fun w1 h => h.less (List.nil_sublist _) (fun q hq => by simp at hq ⊢; rcases hq with h | h; (· simp [h]); simp [h]))
      · simp only [hb50, decide_eq_true_eq, decide_eq_false_iff_not, Bool.and_eq_true, Bool.or_eq_true, Bool.and_eq_false_iff, Bool.or_eq_false_iff, Bool.not_eq_true', Bool.not_eq_false', ne_eq, Decidable.not_not] at hc50
        refine w_exit ?_
        refine t_exit ?_
        refine t_exit ?_
        refine b_hit ?_
        refine t_norm ?_
        refine w_seq ?_
        refine rg_text ?_
        refine x_val rfl rfl rfl (v_move rfl) ?_
        refine x_val rfl rfl rfl (v_assign rfl) ?_
        refine x_end ?_
        refine t_norm ?_
        refine w_ret ?_
        refine ret1 rfl rfl (fun w' hm => ⟨?_, hm.base (by simp)⟩)
        rfl

end Go.Proofs.YtbamklefagghcaaGreatDoor

namespace Go.Proofs.YtbamklefagghcaaGreatDoor
open Go.RowKit Go.PK
set_option linter.unusedVariables false
set_option linter.unusedSimpArgs false

def laidL : List (String × DataW Unit) := [("math/bits.deBruijn32tab", Rows.laid_math_bits_deBruijn32tab), ("math/bits.deBruijn64tab", Rows.laid_math_bits_deBruijn64tab), ("internal/strconv.uint64pow10", Rows.laid_internal_strconv_uint64pow10), ("unicode/utf8.acceptRanges", Rows.laid_unicode_utf8_acceptRanges), ("strconv.ErrRange", Rows.laid_strconv_ErrRange), ("strconv.ErrSyntax", Rows.laid_strconv_ErrSyntax), ("unicode/utf8.first", Rows.laid_unicode_utf8_first)]
theorem noHandle {W : World} (h : laidMetH Tryz.prog laidL W) : laidMet Tryz.prog laidL W := by
  have h1 := (laidMetH_iff.1 h).1
  rwa [show (laidL.filter fun x => x.2.handleName?.isNone) = laidL from by kernel_rfl] at h1
theorem laid_tab {W : World} (h : laidMet Tryz.prog laidL W) : Lib.TabIs Tryz.prog W "internal/strconv.uint64pow10" .u64 Lib.pow10Tab := by
  have h1 := h.filter fun x => x.1 == "internal/strconv.uint64pow10"
  have e : (laidL.filter fun x => x.1 == "internal/strconv.uint64pow10") = [("internal/strconv.uint64pow10", Lib.tabData .u64 Lib.pow10Tab)] := by kernel_rfl
  rw [e] at h1
  exact Lib.tabIs_of_head (g := 3) (t := 160) (e := 146) (n := 20) (by kernel_rfl) (by kernel_rfl) (by kernel_rfl) (by kernel_rfl) (by kernel_rfl) (by kernel_rfl) h1
theorem star : "*" ++ "errors.errorString" = "*errors.errorString" := by decide
theorem row104 (u : TypeId) (h : Tryz.prog.typeName? 3 u = some "*errors.errorString") : u = 165 :=
  typeName_ptr_named (nm := "errors.errorString") (by rw [star]; kernel_rfl) (by kernel_rfl) (by decide) u (by rw [star]; exact h)
theorem laid_syn {W : World} (h : laidMet Tryz.prog laidL W) : ∃ tp p, W.var? Tryz.prog "strconv.ErrSyntax" = some #[.iface tp p] := by
  have h1 := h.filter fun x => x.1 == "strconv.ErrSyntax"
  have e : (laidL.filter fun x => x.1 == "strconv.ErrSyntax") = [("strconv.ErrSyntax", .iface "*errors.errorString" (.ptr (.agg [.lit (.string [105, 110, 118, 97, 108, 105, 100, 32, 115, 121, 110, 116, 97, 120])])))] := by kernel_rfl
  rw [e] at h1
  obtain ⟨a0, s0, hv0, _⟩ := laid_sentinel (g := 0) (ti := 84) (tp := 165) (te := 167) (ts := 9) h1 (by kernel_rfl) (by kernel_rfl) Tryz.underlying84 row104 Tryz.underlying165 Tryz.underlying167 rfl rfl Tryz.underlying9 (by kernel_rfl) (by kernel_rfl)
  exact ⟨_, _, hv0⟩
theorem laid_rng {W : World} (h : laidMet Tryz.prog laidL W) : ∃ tp p, W.var? Tryz.prog "strconv.ErrRange" = some #[.iface tp p] := by
  have h1 := h.filter fun x => x.1 == "strconv.ErrRange"
  have e : (laidL.filter fun x => x.1 == "strconv.ErrRange") = [("strconv.ErrRange", .iface "*errors.errorString" (.ptr (.agg [.lit (.string [118, 97, 108, 117, 101, 32, 111, 117, 116, 32, 111, 102, 32, 114, 97, 110, 103, 101])])))] := by kernel_rfl
  rw [e] at h1
  obtain ⟨a0, s0, hv0, _⟩ := laid_sentinel (g := 1) (ti := 84) (tp := 165) (te := 167) (ts := 9) h1 (by kernel_rfl) (by kernel_rfl) Tryz.underlying84 row104 Tryz.underlying165 Tryz.underlying167 rfl rfl Tryz.underlying9 (by kernel_rfl) (by kernel_rfl)
  exact ⟨_, _, hv0⟩

theorem ld_of {W : World} (h : laidMetH Tryz.prog laidL W) (hS : W.ShapedOpen Tryz.prog) : LD W := ⟨laid_tab (noHandle h), Tryz.laysM146.s1_3 W hS, laid_syn (noHandle h), laid_rng (noHandle h)⟩
theorem laid_met (os : Os) (args : Array Value) : laidMet Tryz.prog laidL ((World.laidAll Tryz.prog os laidL).forCall (fun _ _ => 0) ⟨#[], args, []⟩).memory :=
  laidMet_laidAll args (by kernel_rfl) (by kernel_rfl)
theorem bulk_one {H : Type} (d : DataW H) : 1 ≤ Rows.uptoBulk d := by
  cases d with
  | lit l => cases l <;> simp [Rows.uptoBulk]
  | nil => simp [Rows.uptoBulk]
  | ptr d => simp [Rows.uptoBulk]
  | slice elems spare => simp [Rows.uptoBulk]
  | agg parts => simp [Rows.uptoBulk]
  | iface t d => simp [Rows.uptoBulk]
  | map entries => simp [Rows.uptoBulk]
  | held h => simp [Rows.uptoBulk]
def meas (H : Type) : Meas H := ⟨Rows.uptoBulk, Rows.uptoBulkAll, fun _ => by simp [Rows.uptoBulk], fun _ _ => by simp [Rows.uptoBulk], fun _ => by simp [Rows.uptoBulk], fun _ _ => by simp [Rows.uptoBulkAll], bulk_one⟩

end Go.Proofs.YtbamklefagghcaaGreatDoor

namespace Go.Proofs.YtbamklefagghcaaGreatDoor
open Go.RowKit Go.PK
set_option linter.unusedVariables false
set_option linter.unusedSimpArgs false
set_option maxRecDepth 100000 in
theorem rdr_ord : Rdr Tryz.prog 25 tyOrd :=
  rdr_conv (U := tyOrdU) rfl ord_conv (rdr_struct Tryz.underlying25 (by kernel_rfl) (by decide) (.cons rfl (rdr_i Tryz.underlying3 (by kernel_rfl)) (.cons rfl (rdr_i Tryz.underlying3 (by kernel_rfl)) (.cons rfl (rdr_struct Tryz.underlying23 (by kernel_rfl) (by decide) (.cons rfl (rdr_i Tryz.underlying3 (by kernel_rfl)) (.cons rfl (rdr_i Tryz.underlying3 (by kernel_rfl)) (.nil _)))) (.cons rfl (rdr_i Tryz.underlying3 (by kernel_rfl)) (.cons rfl (rdr_i Tryz.underlying3 (by kernel_rfl)) (.cons rfl (rdr_i Tryz.underlying3 (by kernel_rfl)) (.cons rfl (rdr_i Tryz.underlying3 (by kernel_rfl)) (.cons rfl (rdr_i Tryz.underlying3 (by kernel_rfl)) (.nil _))))))))))
end Go.Proofs.YtbamklefagghcaaGreatDoor
