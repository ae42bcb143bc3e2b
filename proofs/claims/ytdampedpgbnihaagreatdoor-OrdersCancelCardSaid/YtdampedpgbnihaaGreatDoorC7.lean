/- Of the proofs of YtdampedpgbnihaaGreatDoor: Ya Yb Yc Yd Ye Yf Yg Clone Yh Yi Yj Yk Yl, put together. -/
import Derived.Test.YtdampedpgbnihaaGreatDoorC6
import Derived.Test.YtdampedpgbnihaaGreatDoorC2
import Derived.Shelf.SlMaps.Clone
import Derived.Test.YtdampedpgbnihaaGreatDoorProg
import Derived.Test.YtdampedpgbnihaaGreatDoorC1
import Derived.Test.YtdampedpgbnihaaGreatDoorC3
import Derived.Test.YtdampedpgbnihaaGreatDoorC4
import Derived.Test.YtdampedpgbnihaaGreatDoorC5
namespace Go.Proofs.YtdampedpgbnihaaGreatDoor
open Go.RowKit Go.PK
set_option linter.unusedVariables false
set_option linter.unusedSimpArgs false
set_option maxRecDepth 100000 in
theorem c_free {pX : Nat} {f : FSt} (w : World) (hX : ∀ i v, (fxC f)[i]? = some v → w.cell? ⟨pX, i, none⟩ = some v) (hok : fundOK f) :
    Calls Tryz.prog 47 #[.pointer (some ⟨pX, 0, none⟩)] w fun e w' => e = .returned (.int .i64 (f.free)) ∧ Later w w' := by
  obtain ⟨ok1, ok2, ok3, ok4⟩ := id hok
  refine enter (vs := [.pointer (some ⟨pX, 0, none⟩)]) Tryz.func47 rfl Tryz.ntmps47 rfl ?_
  refine w_seq ?_
  refine rg_text ?_
  refine x_val rfl rfl rfl (v_assign rfl) ?_
  refine x_end ?_
  refine t_norm ?_
  refine w_seq ?_
  refine rg_draw 18 [(true, 0), (true, 1), (true, 2), (true, 3), (true, 4), (true, 5), (true, 6), (true, 7), (true, 8), (true, 9), (true, 10), (true, 11), (true, 12), (true, 13), (true, 14), (true, 15), (true, 16), (true, 17)] (by kernel_rfl) (by kernel_rfl) ?_
  refine x_val rfl rfl rfl (v_move rfl) ?_
  refine x_val rfl rfl rfl (v_nilCheck rfl) ?_
  refine x_val rfl rfl rfl (v_fieldAddr (off' := 0) Tryz.underlying88 rfl sz67 (by decide) rfl rfl) ?_
  refine x_val rfl rfl rfl (v_fieldAddr (off' := 2) Tryz.underlying67 rfl sz3 (by decide) rfl rfl) ?_
  refine x_val rfl rfl rfl (v_load Tryz.underlying3 rfl rfl (at_ro (.head _) trivial (hX 2 _ rfl))) ?_
  refine x_val rfl rfl rfl (v_move rfl) ?_
  refine x_val rfl rfl rfl (v_nilCheck rfl) ?_
  refine x_val rfl rfl rfl (v_fieldAddr (off' := 0) Tryz.underlying88 rfl sz67 (by decide) rfl rfl) ?_
  refine x_val rfl rfl rfl (v_fieldAddr (off' := 3) Tryz.underlying67 rfl sz3 (by decide) rfl rfl) ?_
  refine x_val rfl rfl rfl (v_load Tryz.underlying3 rfl rfl (at_ro (.head _) trivial (hX 3 _ rfl))) ?_
  refine x_val rfl rfl rfl (v_subi rfl rfl rfl (by first | omega | (dsimp only; omega))) ?_
  refine x_val rfl rfl rfl (v_move rfl) ?_
  refine x_val rfl rfl rfl (v_nilCheck rfl) ?_
  refine x_val rfl rfl rfl (v_fieldAddr (off' := 0) Tryz.underlying88 rfl sz67 (by decide) rfl rfl) ?_
  refine x_val rfl rfl rfl (v_fieldAddr (off' := 4) Tryz.underlying67 rfl sz3 (by decide) rfl rfl) ?_
  refine x_val rfl rfl rfl (v_load Tryz.underlying3 rfl rfl (at_ro (.head _) trivial (hX 4 _ rfl))) ?_
  refine x_val rfl rfl rfl (v_subi rfl rfl rfl (by first | omega | (dsimp only; omega))) ?_
  refine x_val rfl rfl rfl (v_assign rfl) ?_
  refine x_end ?_
  refine t_norm ?_
  refine w_ret ?_
  refine ret1 rfl rfl (fun w' hm => ⟨?_, hm.base (by simp)⟩)
  rfl
set_option maxRecDepth 100000 in
theorem c_relM {pX : Nat} {f : FSt} (w : World) (hX : ∀ i v, (fxC f)[i]? = some v → w.cell? ⟨pX, i, none⟩ = some v) (hok : fundOK f) :
    Calls Tryz.prog 49 #[.pointer (some ⟨pX, 0, none⟩)] w fun e w' => e = .returned (.int .i64 (f.en)) ∧ Later w w' := by
  refine enter (vs := [.pointer (some ⟨pX, 0, none⟩)]) Tryz.func49 rfl Tryz.ntmps49 rfl ?_
  refine w_seq ?_
  refine rg_text ?_
  refine x_val rfl rfl rfl (v_assign rfl) ?_
  refine x_end ?_
  refine t_norm ?_
  refine w_seq ?_
  refine rg_text ?_
  refine x_val rfl rfl rfl (v_move rfl) ?_
  refine x_val rfl rfl rfl (v_nilCheck rfl) ?_
  refine x_val rfl rfl rfl (v_fieldAddr (off' := 0) Tryz.underlying88 rfl sz67 (by decide) rfl rfl) ?_
  refine x_val rfl rfl rfl (v_fieldAddr (off' := 4) Tryz.underlying67 rfl sz3 (by decide) rfl rfl) ?_
  refine x_val rfl rfl rfl (v_load Tryz.underlying3 rfl rfl (at_ro (.head _) trivial (hX 4 _ rfl))) ?_
  refine x_val rfl rfl rfl (v_assign rfl) ?_
  refine x_end ?_
  refine t_norm ?_
  refine w_ret ?_
  refine ret1 rfl rfl (fun w' hm => ⟨?_, hm.base (by simp)⟩)
  rfl
set_option maxRecDepth 100000 in
theorem c_encA {w : World} {l1 L : List (Nat × Obj)} {ro : List Snap} {pX : Nat} {f : FSt} (n : Int) (hm : Mem w (l1 ++ (pX, Obj.cells (fxC f).toArray 88) :: L) ro) (hok : fundOK f) (hn : 0 ≤ n ∧ n ≤ f.free) :
    Calls Tryz.prog 48 #[.pointer (some ⟨pX, 0, none⟩), .int .i64 n] w fun e w' => e = .returned (.tuple #[]) ∧ Mem w' (l1 ++ (pX, Obj.cells (fxC { f with en := f.en + n }).toArray 88) :: L) ro := by
  obtain ⟨ok1, ok2, ok3, ok4⟩ := id hok
  obtain ⟨hn1, hn2⟩ := hn
  try unfold FSt.free at hn2
  refine enter_in hm (vs := [.pointer (some ⟨pX, 0, none⟩), .int .i64 n]) Tryz.func48 rfl Tryz.ntmps48 rfl ?_
  refine rg_text ?_
  refine x_val rfl rfl rfl (v_move rfl) ?_
  refine x_val rfl rfl rfl (v_nilCheck rfl) ?_
  refine x_val rfl rfl rfl (v_fieldAddr (off' := 0) Tryz.underlying88 rfl sz67 (by decide) rfl rfl) ?_
  refine x_val rfl rfl rfl (v_fieldAddr (off' := 4) Tryz.underlying67 rfl sz3 (by decide) rfl rfl) ?_
  refine x_val rfl rfl rfl (v_load Tryz.underlying3 rfl rfl (at_ownL (vs := fxC f) (List.mem_append_right _ (.head _)) rfl)) ?_
  refine x_val rfl rfl rfl (v_move rfl) ?_
  refine x_val rfl rfl rfl (v_addi rfl rfl rfl (by first | omega | (dsimp only; omega))) ?_
  refine x_val rfl rfl rfl (v_nilCheck rfl) ?_
  refine x_val rfl rfl rfl (v_fieldAddr (off' := 0) Tryz.underlying88 rfl sz67 (by decide) rfl rfl) ?_
  refine x_val rfl rfl rfl (v_fieldAddr (off' := 4) Tryz.underlying67 rfl sz3 (by decide) rfl rfl) ?_
  refine x_store (cs := fxC f) (off := 4) (e := 88) (l2 := L) l1 rfl rfl rfl rfl sz3 rfl (by show 5 ≤ 6; decide) ?_
  refine x_end ?_
  exact ret0 rfl (fun w' hm' => ⟨rfl, hm'⟩)
set_option maxRecDepth 100000 in
theorem c_relA {w : World} {l1 L : List (Nat × Obj)} {ro : List Snap} {pX : Nat} {f : FSt} (n : Int) (hm : Mem w (l1 ++ (pX, Obj.cells (fxC f).toArray 88) :: L) ro) (hok : fundOK f) (hn : 0 ≤ n ∧ n ≤ f.en) :
    Calls Tryz.prog 50 #[.pointer (some ⟨pX, 0, none⟩), .int .i64 n] w fun e w' => e = .returned (.tuple #[]) ∧ Mem w' (l1 ++ (pX, Obj.cells (fxC { f with en := f.en - n }).toArray 88) :: L) ro := by
  obtain ⟨ok1, ok2, ok3, ok4⟩ := id hok
  obtain ⟨hn1, hn2⟩ := hn
  try unfold FSt.free at hn2
  refine enter_in hm (vs := [.pointer (some ⟨pX, 0, none⟩), .int .i64 n]) Tryz.func50 rfl Tryz.ntmps50 rfl ?_
  refine rg_text ?_
  refine x_val rfl rfl rfl (v_move rfl) ?_
  refine x_val rfl rfl rfl (v_nilCheck rfl) ?_
  refine x_val rfl rfl rfl (v_fieldAddr (off' := 0) Tryz.underlying88 rfl sz67 (by decide) rfl rfl) ?_
  refine x_val rfl rfl rfl (v_fieldAddr (off' := 4) Tryz.underlying67 rfl sz3 (by decide) rfl rfl) ?_
  refine x_val rfl rfl rfl (v_load Tryz.underlying3 rfl rfl (at_ownL (vs := fxC f) (List.mem_append_right _ (.head _)) rfl)) ?_
  refine x_val rfl rfl rfl (v_move rfl) ?_
  refine x_val rfl rfl rfl (v_subi rfl rfl rfl (by first | omega | (dsimp only; omega))) ?_
  refine x_val rfl rfl rfl (v_nilCheck rfl) ?_
  refine x_val rfl rfl rfl (v_fieldAddr (off' := 0) Tryz.underlying88 rfl sz67 (by decide) rfl rfl) ?_
  refine x_val rfl rfl rfl (v_fieldAddr (off' := 4) Tryz.underlying67 rfl sz3 (by decide) rfl rfl) ?_
  refine x_store (cs := fxC f) (off := 4) (e := 88) (l2 := L) l1 rfl rfl rfl rfl sz3 rfl (by show 5 ≤ 6; decide) ?_
  refine x_end ?_
  exact ret0 rfl (fun w' hm' => ⟨rfl, hm'⟩)
set_option maxRecDepth 100000 in
theorem c_spdA {w : World} {l1 L : List (Nat × Obj)} {ro : List Snap} {pX : Nat} {f : FSt} (n : Int) (hm : Mem w (l1 ++ (pX, Obj.cells (fxC f).toArray 88) :: L) ro) (hok : fundOK f) (hn : 0 ≤ n ∧ n ≤ f.free) :
    Calls Tryz.prog 63 #[.pointer (some ⟨pX, 0, none⟩), .int .i64 n] w fun e w' => e = .returned (.tuple #[]) ∧ Mem w' (l1 ++ (pX, Obj.cells (fxC { f with sp := f.sp + n }).toArray 88) :: L) ro := by
  obtain ⟨ok1, ok2, ok3, ok4⟩ := id hok
  obtain ⟨hn1, hn2⟩ := hn
  try unfold FSt.free at hn2
  refine enter_in hm (vs := [.pointer (some ⟨pX, 0, none⟩), .int .i64 n]) Tryz.func63 rfl Tryz.ntmps63 rfl ?_
  refine rg_text ?_
  refine x_val rfl rfl rfl (v_move rfl) ?_
  refine x_val rfl rfl rfl (v_nilCheck rfl) ?_
  refine x_val rfl rfl rfl (v_fieldAddr (off' := 0) Tryz.underlying88 rfl sz67 (by decide) rfl rfl) ?_
  refine x_val rfl rfl rfl (v_fieldAddr (off' := 3) Tryz.underlying67 rfl sz3 (by decide) rfl rfl) ?_
  refine x_val rfl rfl rfl (v_load Tryz.underlying3 rfl rfl (at_ownL (vs := fxC f) (List.mem_append_right _ (.head _)) rfl)) ?_
  refine x_val rfl rfl rfl (v_move rfl) ?_
  refine x_val rfl rfl rfl (v_addi rfl rfl rfl (by first | omega | (dsimp only; omega))) ?_
  refine x_val rfl rfl rfl (v_nilCheck rfl) ?_
  refine x_val rfl rfl rfl (v_fieldAddr (off' := 0) Tryz.underlying88 rfl sz67 (by decide) rfl rfl) ?_
  refine x_val rfl rfl rfl (v_fieldAddr (off' := 3) Tryz.underlying67 rfl sz3 (by decide) rfl rfl) ?_
  refine x_store (cs := fxC f) (off := 3) (e := 88) (l2 := L) l1 rfl rfl rfl rfl sz3 rfl (by show 4 ≤ 6; decide) ?_
  refine x_end ?_
  exact ret0 rfl (fun w' hm' => ⟨rfl, hm'⟩)
set_option maxRecDepth 100000 in
theorem c_postE {w : World} {l1 L : List (Nat × Obj)} {ro : List Snap} {pX mF pF : Nat} {esF : Array MapEntry} {ckF : Nat} {money : Int} {f : FSt} (hm : Mem w (l1 ++ (pX, Obj.cells (fxC f).toArray 88) :: (mF, Obj.map esF ckF) :: (pF, Obj.cells (fnC mF money).toArray 83) :: L) ro) (hF : MapF Tryz.prog 3 esF (fF pX)) (hok : fundOK f) (n : Int) :
    Calls Tryz.prog 46 #[.pointer (some ⟨pF, 0, none⟩), .int .i64 2, .int .i64 n, .agg #[.func (.func 47) #[] #[], .func (.func 48) #[] #[]]] w fun e w' => e = .returned (.int .i64 (encP f n).1) ∧ ∃ u : Unit, True ∧ Mem w' (l1 ++ (pX, Obj.cells (fxC (encP f n).2).toArray 88) :: (mF, Obj.map esF ckF) :: (pF, Obj.cells (fnC mF money).toArray 83) :: L) ro := by
  refine enter_in hm (vs := [.pointer (some ⟨pF, 0, none⟩), .int .i64 2, .int .i64 n, .agg #[.func (.func 47) #[] #[], .func (.func 48) #[] #[]]]) Tryz.func46 rfl Tryz.ntmps46 rfl ?_
  refine w_seq ?_
  refine rg_text ?_
  refine x_box rfl rfl rfl rfl ?_
  intro p7
  refine x_val rfl rfl rfl (v_assign rfl) ?_
  refine x_end ?_
  refine t_norm ?_
  refine w_seq ?_
  refine w_seq ?_
  refine rg_text ?_
  refine x_val rfl rfl rfl (v_move rfl) ?_
  refine x_val (v := Value.bool false) rfl rfl rfl (v_pnil (o := some ⟨pF, 0, none⟩) Tryz.underlying26 rfl rfl) ?_
  refine x_end ?_
  refine t_norm ?_
  refine w_cond rfl (fun hc11 => ?_) (fun hc11 => ?_)
  · cases hc11
  · skip
    refine w_skip ?_
    refine t_norm ?_
    refine w_seq ?_
    refine rg_text ?_
    refine x_val rfl rfl rfl (v_move rfl) ?_
    refine x_val rfl rfl rfl (v_nilCheck rfl) ?_
    refine x_val rfl rfl rfl (v_fieldAddr (off' := 0) Tryz.underlying83 rfl sz81 (by decide) rfl rfl) ?_
    refine x_val rfl rfl rfl (v_load Tryz.underlying81 rfl rfl (at_ownL (vs := fnC mF money) (.tail _ (List.mem_append_right _ (.tail _ (.tail _ (.head _))))) rfl)) ?_
    refine x_val rfl rfl rfl (v_move rfl) ?_
    refine x_val rfl rfl rfl (v_lookup Tryz.underlying81 (Maps.int_keyed Tryz.underlying3) zr84 rfl rfl (Maps.keyOf_int_mk Tryz.underlying3 (by decide)) (.tail _ (List.mem_append_right _ (.tail _ (.head _)))) hF (show ((fF pX) (.int .i64 2)).getD _ = Value.pointer (some ⟨pX, 0, none⟩) from by rw [fF_at]; rfl)) ?_
    refine x_val rfl rfl rfl (v_assign rfl) ?_
    refine x_end ?_
    refine t_norm ?_
    refine w_seq ?_
    refine w_block ?_
    refine w_seq ?_
    refine rg_text ?_
    refine x_val rfl rfl rfl (v_move rfl) ?_
    refine x_val (v := Value.bool false) rfl rfl rfl (v_pnil (o := some ⟨pX, 0, none⟩) Tryz.underlying84 rfl rfl) ?_
    refine x_val rfl rfl rfl (v_assign rfl) ?_
    refine x_end ?_
    refine t_norm ?_
    refine w_cond rfl (fun hc18 => ?_) (fun hc18 => ?_)
    · cases hc18
    · skip
      refine w_seq ?_
      refine rg_text ?_
      refine x_val rfl rfl rfl (v_move rfl) ?_
      refine x_bool rfl rfl rfl (v_lss rfl rfl) ?_
      intro b23 hb23
      refine x_val rfl rfl rfl (v_assign rfl) ?_
      refine x_end ?_
      refine t_norm ?_
      refine w_cond rfl (fun hc21 => ?_) (fun hc21 => ?_)
      · simp only [hb23, decide_eq_true_eq, decide_eq_false_iff_not, Bool.and_eq_true, Bool.or_eq_true, Bool.and_eq_false_iff, Bool.or_eq_false_iff, Bool.not_eq_true', Bool.not_eq_false', ne_eq, Decidable.not_not] at hc21
        refine w_seq ?_
        refine rg_text ?_
        refine x_val rfl rfl rfl (v_assign rfl) ?_
        refine x_end ?_
        refine t_norm ?_
        refine w_ret ?_
        refine b_ret ?_
        refine t_ret ?_
        refine ret1 rfl rfl (fun w' hm' => ⟨?_, (), trivial, ?_⟩)
        · unfold encP; rw [if_pos (by omega)]
        · unfold encP; rw [if_pos (by omega)]; exact hm'.less (List.sublist_cons_self _ _) (fun _ h => h)
      · simp only [hb23, decide_eq_true_eq, decide_eq_false_iff_not, Bool.and_eq_true, Bool.or_eq_true, Bool.and_eq_false_iff, Bool.or_eq_false_iff, Bool.not_eq_true', Bool.not_eq_false', ne_eq, Decidable.not_not] at hc21
        refine w_seq ?_
        refine rg_text ?_
        refine x_val rfl rfl rfl (v_move rfl) ?_
        refine x_val rfl rfl rfl (v_fieldAddr (off' := 0) Tryz.underlying99 rfl sz96 (by decide) rfl rfl) ?_
        refine x_val rfl rfl rfl (v_load Tryz.underlying96 rfl rfl (by first | exact at_ownL (.head _) rfl | exact at_ownL (.tail _ (.head _)) rfl | exact at_ownL (.tail _ (.tail _ (.head _))) rfl | (apply at_ownL; ((repeat (first | exact List.Mem.head _ | apply List.Mem.tail | apply List.mem_append_right))); rfl) | (refine at_ro (by first | exact .head _ | exact .tail _ (.head _) | exact .tail _ (.tail _ (.head _)) | simp) ?_ (by assumption); trivial))) ?_
        refine x_val rfl rfl rfl (v_move rfl) ?_
        refine x_clv (cap := #[]) rfl rfl rfl rfl Tryz.func47 (by kernel_rfl) rfl (fun w1 hw1 => by simpa using c_free (f := f) w1 (fun i v hv => at_ownL (vs := fxC f) (.tail _ (List.mem_append_right _ (.head _))) hv w1 hw1) hok) ?_
        refine x_bool rfl rfl rfl (v_gtr rfl rfl) ?_
        intro b30 hb30
        refine x_val rfl rfl rfl (v_assign rfl) ?_
        refine x_end ?_
        refine t_norm ?_
        refine w_cond rfl (fun hc24 => ?_) (fun hc24 => ?_)
        · simp only [hb30, decide_eq_true_eq, decide_eq_false_iff_not, Bool.and_eq_true, Bool.or_eq_true, Bool.and_eq_false_iff, Bool.or_eq_false_iff, Bool.not_eq_true', Bool.not_eq_false', ne_eq, Decidable.not_not] at hc24
          refine w_seq ?_
          refine rg_text ?_
          refine x_val rfl rfl rfl (v_assign rfl) ?_
          refine x_end ?_
          refine t_norm ?_
          refine w_ret ?_
          refine b_ret ?_
          refine t_ret ?_
          refine ret1 rfl rfl (fun w' hm' => ⟨?_, (), trivial, ?_⟩)
          · unfold encP; rw [if_neg (by omega), if_pos (by omega)]
          · unfold encP; rw [if_neg (by omega), if_pos (by omega)]; exact hm'.less (List.sublist_cons_self _ _) (fun _ h => h)
        · simp only [hb30, decide_eq_true_eq, decide_eq_false_iff_not, Bool.and_eq_true, Bool.or_eq_true, Bool.and_eq_false_iff, Bool.or_eq_false_iff, Bool.not_eq_true', Bool.not_eq_false', ne_eq, Decidable.not_not] at hc24
          refine w_skip ?_
          refine b_norm ?_
          refine t_norm ?_
          refine w_seq ?_
          refine rg_text ?_
          refine x_val rfl rfl rfl (v_fieldAddr (off' := 1) Tryz.underlying99 rfl sz97 (by decide) rfl rfl) ?_
          refine x_val rfl rfl rfl (v_load Tryz.underlying97 rfl rfl (by first | exact at_ownL (.head _) rfl | exact at_ownL (.tail _ (.head _)) rfl | exact at_ownL (.tail _ (.tail _ (.head _))) rfl | (apply at_ownL; ((repeat (first | exact List.Mem.head _ | apply List.Mem.tail | apply List.mem_append_right))); rfl) | (refine at_ro (by first | exact .head _ | exact .tail _ (.head _) | exact .tail _ (.tail _ (.head _)) | simp) ?_ (by assumption); trivial))) ?_
          refine x_val rfl rfl rfl (v_move rfl) ?_
          refine x_val rfl rfl rfl (v_move rfl) ?_
          refine x_turn (τ := Unit) (v := Value.tuple #[]) (fst := #[]) (cap := #[]) (fun _ => True) (fun _ => (p7, Obj.cells [Value.func (.func 47) #[] #[], .func (.func 48) #[] #[]].toArray 99) :: (l1 ++ (pX, Obj.cells (fxC { f with en := f.en + n }).toArray 88) :: (mF, Obj.map esF ckF) :: (pF, Obj.cells (fnC mF money).toArray 83) :: L)) rfl rfl rfl Tryz.func48 (by kernel_rfl) rfl (fun w1 hw1 => by simpa using c_encA (l1 := (p7, Obj.cells [Value.func (.func 47) #[] #[], .func (.func 48) #[] #[]].toArray 99) :: l1) n hw1 hok (by omega)) ?_
          intro _ _
          refine x_end ?_
          refine t_norm ?_
          refine w_seq ?_
          refine rg_text ?_
          refine x_val rfl rfl rfl (v_assign rfl) ?_
          refine x_end ?_
          refine t_norm ?_
          refine w_ret ?_
          refine ret1 rfl rfl (fun w' hm' => ⟨?_, (), trivial, ?_⟩)
          · unfold encP; rw [if_neg (by omega), if_neg (by omega)]
          · unfold encP; rw [if_neg (by omega), if_neg (by omega)]; exact hm'.less (List.sublist_cons_self _ _) (fun _ h => h)
set_option maxRecDepth 100000 in
theorem c_postR {w : World} {l1 L : List (Nat × Obj)} {ro : List Snap} {pX mF pF : Nat} {esF : Array MapEntry} {ckF : Nat} {money : Int} {f : FSt} (hm : Mem w (l1 ++ (pX, Obj.cells (fxC f).toArray 88) :: (mF, Obj.map esF ckF) :: (pF, Obj.cells (fnC mF money).toArray 83) :: L) ro) (hF : MapF Tryz.prog 3 esF (fF pX)) (hok : fundOK f) (n : Int) :
    Calls Tryz.prog 46 #[.pointer (some ⟨pF, 0, none⟩), .int .i64 2, .int .i64 n, .agg #[.func (.func 49) #[] #[], .func (.func 50) #[] #[]]] w fun e w' => e = .returned (.int .i64 (relP f n).1) ∧ ∃ u : Unit, True ∧ Mem w' (l1 ++ (pX, Obj.cells (fxC (relP f n).2).toArray 88) :: (mF, Obj.map esF ckF) :: (pF, Obj.cells (fnC mF money).toArray 83) :: L) ro := by
  refine enter_in hm (vs := [.pointer (some ⟨pF, 0, none⟩), .int .i64 2, .int .i64 n, .agg #[.func (.func 49) #[] #[], .func (.func 50) #[] #[]]]) Tryz.func46 rfl Tryz.ntmps46 rfl ?_
  refine w_seq ?_
  refine rg_text ?_
  refine x_box rfl rfl rfl rfl ?_
  intro p7
  refine x_val rfl rfl rfl (v_assign rfl) ?_
  refine x_end ?_
  refine t_norm ?_
  refine w_seq ?_
  refine w_seq ?_
  refine rg_text ?_
  refine x_val rfl rfl rfl (v_move rfl) ?_
  refine x_val (v := Value.bool false) rfl rfl rfl (v_pnil (o := some ⟨pF, 0, none⟩) Tryz.underlying26 rfl rfl) ?_
  refine x_end ?_
  refine t_norm ?_
  refine w_cond rfl (fun hc11 => ?_) (fun hc11 => ?_)
  · cases hc11
  · skip
    refine w_skip ?_
    refine t_norm ?_
    refine w_seq ?_
    refine rg_text ?_
    refine x_val rfl rfl rfl (v_move rfl) ?_
    refine x_val rfl rfl rfl (v_nilCheck rfl) ?_
    refine x_val rfl rfl rfl (v_fieldAddr (off' := 0) Tryz.underlying83 rfl sz81 (by decide) rfl rfl) ?_
    refine x_val rfl rfl rfl (v_load Tryz.underlying81 rfl rfl (at_ownL (vs := fnC mF money) (.tail _ (List.mem_append_right _ (.tail _ (.tail _ (.head _))))) rfl)) ?_
    refine x_val rfl rfl rfl (v_move rfl) ?_
    refine x_val rfl rfl rfl (v_lookup Tryz.underlying81 (Maps.int_keyed Tryz.underlying3) zr84 rfl rfl (Maps.keyOf_int_mk Tryz.underlying3 (by decide)) (.tail _ (List.mem_append_right _ (.tail _ (.head _)))) hF (show ((fF pX) (.int .i64 2)).getD _ = Value.pointer (some ⟨pX, 0, none⟩) from by rw [fF_at]; rfl)) ?_
    refine x_val rfl rfl rfl (v_assign rfl) ?_
    refine x_end ?_
    refine t_norm ?_
    refine w_seq ?_
    refine w_block ?_
    refine w_seq ?_
    refine rg_text ?_
    refine x_val rfl rfl rfl (v_move rfl) ?_
    refine x_val (v := Value.bool false) rfl rfl rfl (v_pnil (o := some ⟨pX, 0, none⟩) Tryz.underlying84 rfl rfl) ?_
    refine x_val rfl rfl rfl (v_assign rfl) ?_
    refine x_end ?_
    refine t_norm ?_
    refine w_cond rfl (fun hc18 => ?_) (fun hc18 => ?_)
    · cases hc18
    · skip
      refine w_seq ?_
      refine rg_text ?_
      refine x_val rfl rfl rfl (v_move rfl) ?_
      refine x_bool rfl rfl rfl (v_lss rfl rfl) ?_
      intro b23 hb23
      refine x_val rfl rfl rfl (v_assign rfl) ?_
      refine x_end ?_
      refine t_norm ?_
      refine w_cond rfl (fun hc21 => ?_) (fun hc21 => ?_)
      · simp only [hb23, decide_eq_true_eq, decide_eq_false_iff_not, Bool.and_eq_true, Bool.or_eq_true, Bool.and_eq_false_iff, Bool.or_eq_false_iff, Bool.not_eq_true', Bool.not_eq_false', ne_eq, Decidable.not_not] at hc21
        refine w_seq ?_
        refine rg_text ?_
        refine x_val rfl rfl rfl (v_assign rfl) ?_
        refine x_end ?_
        refine t_norm ?_
        refine w_ret ?_
        refine b_ret ?_
        refine t_ret ?_
        refine ret1 rfl rfl (fun w' hm' => ⟨?_, (), trivial, ?_⟩)
        · unfold relP; rw [if_pos (by omega)]
        · unfold relP; rw [if_pos (by omega)]; exact hm'.less (List.sublist_cons_self _ _) (fun _ h => h)
      · simp only [hb23, decide_eq_true_eq, decide_eq_false_iff_not, Bool.and_eq_true, Bool.or_eq_true, Bool.and_eq_false_iff, Bool.or_eq_false_iff, Bool.not_eq_true', Bool.not_eq_false', ne_eq, Decidable.not_not] at hc21
        refine w_seq ?_
        refine rg_text ?_
        refine x_val rfl rfl rfl (v_move rfl) ?_
        refine x_val rfl rfl rfl (v_fieldAddr (off' := 0) Tryz.underlying99 rfl sz96 (by decide) rfl rfl) ?_
        refine x_val rfl rfl rfl (v_load Tryz.underlying96 rfl rfl (by first | exact at_ownL (.head _) rfl | exact at_ownL (.tail _ (.head _)) rfl | exact at_ownL (.tail _ (.tail _ (.head _))) rfl | (apply at_ownL; ((repeat (first | exact List.Mem.head _ | apply List.Mem.tail | apply List.mem_append_right))); rfl) | (refine at_ro (by first | exact .head _ | exact .tail _ (.head _) | exact .tail _ (.tail _ (.head _)) | simp) ?_ (by assumption); trivial))) ?_
        refine x_val rfl rfl rfl (v_move rfl) ?_
        refine x_clv (cap := #[]) rfl rfl rfl rfl Tryz.func49 (by kernel_rfl) rfl (fun w1 hw1 => by simpa using c_relM (f := f) w1 (fun i v hv => at_ownL (vs := fxC f) (.tail _ (List.mem_append_right _ (.head _))) hv w1 hw1) hok) ?_
        refine x_bool rfl rfl rfl (v_gtr rfl rfl) ?_
        intro b30 hb30
        refine x_val rfl rfl rfl (v_assign rfl) ?_
        refine x_end ?_
        refine t_norm ?_
        refine w_cond rfl (fun hc24 => ?_) (fun hc24 => ?_)
        · simp only [hb30, decide_eq_true_eq, decide_eq_false_iff_not, Bool.and_eq_true, Bool.or_eq_true, Bool.and_eq_false_iff, Bool.or_eq_false_iff, Bool.not_eq_true', Bool.not_eq_false', ne_eq, Decidable.not_not] at hc24
          refine w_seq ?_
          refine rg_text ?_
          refine x_val rfl rfl rfl (v_assign rfl) ?_
          refine x_end ?_
          refine t_norm ?_
          refine w_ret ?_
          refine b_ret ?_
          refine t_ret ?_
          refine ret1 rfl rfl (fun w' hm' => ⟨?_, (), trivial, ?_⟩)
          · unfold relP; rw [if_neg (by omega), if_pos (by omega)]
          · unfold relP; rw [if_neg (by omega), if_pos (by omega)]; exact hm'.less (List.sublist_cons_self _ _) (fun _ h => h)
        · simp only [hb30, decide_eq_true_eq, decide_eq_false_iff_not, Bool.and_eq_true, Bool.or_eq_true, Bool.and_eq_false_iff, Bool.or_eq_false_iff, Bool.not_eq_true', Bool.not_eq_false', ne_eq, Decidable.not_not] at hc24
          refine w_skip ?_
          refine b_norm ?_
          refine t_norm ?_
          refine w_seq ?_
          refine rg_text ?_
          refine x_val rfl rfl rfl (v_fieldAddr (off' := 1) Tryz.underlying99 rfl sz97 (by decide) rfl rfl) ?_
          refine x_val rfl rfl rfl (v_load Tryz.underlying97 rfl rfl (by first | exact at_ownL (.head _) rfl | exact at_ownL (.tail _ (.head _)) rfl | exact at_ownL (.tail _ (.tail _ (.head _))) rfl | (apply at_ownL; ((repeat (first | exact List.Mem.head _ | apply List.Mem.tail | apply List.mem_append_right))); rfl) | (refine at_ro (by first | exact .head _ | exact .tail _ (.head _) | exact .tail _ (.tail _ (.head _)) | simp) ?_ (by assumption); trivial))) ?_
          refine x_val rfl rfl rfl (v_move rfl) ?_
          refine x_val rfl rfl rfl (v_move rfl) ?_
          refine x_turn (τ := Unit) (v := Value.tuple #[]) (fst := #[]) (cap := #[]) (fun _ => True) (fun _ => (p7, Obj.cells [Value.func (.func 49) #[] #[], .func (.func 50) #[] #[]].toArray 99) :: (l1 ++ (pX, Obj.cells (fxC { f with en := f.en - n }).toArray 88) :: (mF, Obj.map esF ckF) :: (pF, Obj.cells (fnC mF money).toArray 83) :: L)) rfl rfl rfl Tryz.func50 (by kernel_rfl) rfl (fun w1 hw1 => by simpa using c_relA (l1 := (p7, Obj.cells [Value.func (.func 49) #[] #[], .func (.func 50) #[] #[]].toArray 99) :: l1) n hw1 hok (by omega)) ?_
          intro _ _
          refine x_end ?_
          refine t_norm ?_
          refine w_seq ?_
          refine rg_text ?_
          refine x_val rfl rfl rfl (v_assign rfl) ?_
          refine x_end ?_
          refine t_norm ?_
          refine w_ret ?_
          refine ret1 rfl rfl (fun w' hm' => ⟨?_, (), trivial, ?_⟩)
          · unfold relP; rw [if_neg (by omega), if_neg (by omega)]
          · unfold relP; rw [if_neg (by omega), if_neg (by omega)]; exact hm'.less (List.sublist_cons_self _ _) (fun _ h => h)
set_option maxRecDepth 100000 in
theorem c_postS {w : World} {l1 L : List (Nat × Obj)} {ro : List Snap} {pX mF pF : Nat} {esF : Array MapEntry} {ckF : Nat} {money : Int} {f : FSt} (hm : Mem w (l1 ++ (pX, Obj.cells (fxC f).toArray 88) :: (mF, Obj.map esF ckF) :: (pF, Obj.cells (fnC mF money).toArray 83) :: L) ro) (hF : MapF Tryz.prog 3 esF (fF pX)) (hok : fundOK f) (n : Int) :
    Calls Tryz.prog 46 #[.pointer (some ⟨pF, 0, none⟩), .int .i64 2, .int .i64 n, .agg #[.func (.func 47) #[] #[], .func (.func 63) #[] #[]]] w fun e w' => e = .returned (.int .i64 (spdP f n).1) ∧ ∃ u : Unit, True ∧ Mem w' (l1 ++ (pX, Obj.cells (fxC (spdP f n).2).toArray 88) :: (mF, Obj.map esF ckF) :: (pF, Obj.cells (fnC mF money).toArray 83) :: L) ro := by
  refine enter_in hm (vs := [.pointer (some ⟨pF, 0, none⟩), .int .i64 2, .int .i64 n, .agg #[.func (.func 47) #[] #[], .func (.func 63) #[] #[]]]) Tryz.func46 rfl Tryz.ntmps46 rfl ?_
  refine w_seq ?_
  refine rg_text ?_
  refine x_box rfl rfl rfl rfl ?_
  intro p7
  refine x_val rfl rfl rfl (v_assign rfl) ?_
  refine x_end ?_
  refine t_norm ?_
  refine w_seq ?_
  refine w_seq ?_
  refine rg_text ?_
  refine x_val rfl rfl rfl (v_move rfl) ?_
  refine x_val (v := Value.bool false) rfl rfl rfl (v_pnil (o := some ⟨pF, 0, none⟩) Tryz.underlying26 rfl rfl) ?_
  refine x_end ?_
  refine t_norm ?_
  refine w_cond rfl (fun hc11 => ?_) (fun hc11 => ?_)
  · cases hc11
  · skip
    refine w_skip ?_
    refine t_norm ?_
    refine w_seq ?_
    refine rg_text ?_
    refine x_val rfl rfl rfl (v_move rfl) ?_
    refine x_val rfl rfl rfl (v_nilCheck rfl) ?_
    refine x_val rfl rfl rfl (v_fieldAddr (off' := 0) Tryz.underlying83 rfl sz81 (by decide) rfl rfl) ?_
    refine x_val rfl rfl rfl (v_load Tryz.underlying81 rfl rfl (at_ownL (vs := fnC mF money) (.tail _ (List.mem_append_right _ (.tail _ (.tail _ (.head _))))) rfl)) ?_
    refine x_val rfl rfl rfl (v_move rfl) ?_
    refine x_val rfl rfl rfl (v_lookup Tryz.underlying81 (Maps.int_keyed Tryz.underlying3) zr84 rfl rfl (Maps.keyOf_int_mk Tryz.underlying3 (by decide)) (.tail _ (List.mem_append_right _ (.tail _ (.head _)))) hF (show ((fF pX) (.int .i64 2)).getD _ = Value.pointer (some ⟨pX, 0, none⟩) from by rw [fF_at]; rfl)) ?_
    refine x_val rfl rfl rfl (v_assign rfl) ?_
    refine x_end ?_
    refine t_norm ?_
    refine w_seq ?_
    refine w_block ?_
    refine w_seq ?_
    refine rg_text ?_
    refine x_val rfl rfl rfl (v_move rfl) ?_
    refine x_val (v := Value.bool false) rfl rfl rfl (v_pnil (o := some ⟨pX, 0, none⟩) Tryz.underlying84 rfl rfl) ?_
    refine x_val rfl rfl rfl (v_assign rfl) ?_
    refine x_end ?_
    refine t_norm ?_
    refine w_cond rfl (fun hc18 => ?_) (fun hc18 => ?_)
    · cases hc18
    · skip
      refine w_seq ?_
      refine rg_text ?_
      refine x_val rfl rfl rfl (v_move rfl) ?_
      refine x_bool rfl rfl rfl (v_lss rfl rfl) ?_
      intro b23 hb23
      refine x_val rfl rfl rfl (v_assign rfl) ?_
      refine x_end ?_
      refine t_norm ?_
      refine w_cond rfl (fun hc21 => ?_) (fun hc21 => ?_)
      · simp only [hb23, decide_eq_true_eq, decide_eq_false_iff_not, Bool.and_eq_true, Bool.or_eq_true, Bool.and_eq_false_iff, Bool.or_eq_false_iff, Bool.not_eq_true', Bool.not_eq_false', ne_eq, Decidable.not_not] at hc21
        refine w_seq ?_
        refine rg_text ?_
        refine x_val rfl rfl rfl (v_assign rfl) ?_
        refine x_end ?_
        refine t_norm ?_
        refine w_ret ?_
        refine b_ret ?_
        refine t_ret ?_
        refine ret1 rfl rfl (fun w' hm' => ⟨?_, (), trivial, ?_⟩)
        · unfold spdP; rw [if_pos (by omega)]
        · unfold spdP; rw [if_pos (by omega)]; exact hm'.less (List.sublist_cons_self _ _) (fun _ h => h)
      · simp only [hb23, decide_eq_true_eq, decide_eq_false_iff_not, Bool.and_eq_true, Bool.or_eq_true, Bool.and_eq_false_iff, Bool.or_eq_false_iff, Bool.not_eq_true', Bool.not_eq_false', ne_eq, Decidable.not_not] at hc21
        refine w_seq ?_
        refine rg_text ?_
        refine x_val rfl rfl rfl (v_move rfl) ?_
        refine x_val rfl rfl rfl (v_fieldAddr (off' := 0) Tryz.underlying99 rfl sz96 (by decide) rfl rfl) ?_
        refine x_val rfl rfl rfl (v_load Tryz.underlying96 rfl rfl (by first | exact at_ownL (.head _) rfl | exact at_ownL (.tail _ (.head _)) rfl | exact at_ownL (.tail _ (.tail _ (.head _))) rfl | (apply at_ownL; ((repeat (first | exact List.Mem.head _ | apply List.Mem.tail | apply List.mem_append_right))); rfl) | (refine at_ro (by first | exact .head _ | exact .tail _ (.head _) | exact .tail _ (.tail _ (.head _)) | simp) ?_ (by assumption); trivial))) ?_
        refine x_val rfl rfl rfl (v_move rfl) ?_
        refine x_clv (cap := #[]) rfl rfl rfl rfl Tryz.func47 (by kernel_rfl) rfl (fun w1 hw1 => by simpa using c_free (f := f) w1 (fun i v hv => at_ownL (vs := fxC f) (.tail _ (List.mem_append_right _ (.head _))) hv w1 hw1) hok) ?_
        refine x_bool rfl rfl rfl (v_gtr rfl rfl) ?_
        intro b30 hb30
        refine x_val rfl rfl rfl (v_assign rfl) ?_
        refine x_end ?_
        refine t_norm ?_
        refine w_cond rfl (fun hc24 => ?_) (fun hc24 => ?_)
        · simp only [hb30, decide_eq_true_eq, decide_eq_false_iff_not, Bool.and_eq_true, Bool.or_eq_true, Bool.and_eq_false_iff, Bool.or_eq_false_iff, Bool.not_eq_true', Bool.not_eq_false', ne_eq, Decidable.not_not] at hc24
          refine w_seq ?_
          refine rg_text ?_
          refine x_val rfl rfl rfl (v_assign rfl) ?_
          refine x_end ?_
          refine t_norm ?_
          refine w_ret ?_
          refine b_ret ?_
          refine t_ret ?_
          refine ret1 rfl rfl (fun w' hm' => ⟨?_, (), trivial, ?_⟩)
          · unfold spdP; rw [if_neg (by omega), if_pos (by omega)]
          · unfold spdP; rw [if_neg (by omega), if_pos (by omega)]; exact hm'.less (List.sublist_cons_self _ _) (fun _ h => h)
        · simp only [hb30, decide_eq_true_eq, decide_eq_false_iff_not, Bool.and_eq_true, Bool.or_eq_true, Bool.and_eq_false_iff, Bool.or_eq_false_iff, Bool.not_eq_true', Bool.not_eq_false', ne_eq, Decidable.not_not] at hc24
          refine w_skip ?_
          refine b_norm ?_
          refine t_norm ?_
          refine w_seq ?_
          refine rg_text ?_
          refine x_val rfl rfl rfl (v_fieldAddr (off' := 1) Tryz.underlying99 rfl sz97 (by decide) rfl rfl) ?_
          refine x_val rfl rfl rfl (v_load Tryz.underlying97 rfl rfl (by first | exact at_ownL (.head _) rfl | exact at_ownL (.tail _ (.head _)) rfl | exact at_ownL (.tail _ (.tail _ (.head _))) rfl | (apply at_ownL; ((repeat (first | exact List.Mem.head _ | apply List.Mem.tail | apply List.mem_append_right))); rfl) | (refine at_ro (by first | exact .head _ | exact .tail _ (.head _) | exact .tail _ (.tail _ (.head _)) | simp) ?_ (by assumption); trivial))) ?_
          refine x_val rfl rfl rfl (v_move rfl) ?_
          refine x_val rfl rfl rfl (v_move rfl) ?_
          refine x_turn (τ := Unit) (v := Value.tuple #[]) (fst := #[]) (cap := #[]) (fun _ => True) (fun _ => (p7, Obj.cells [Value.func (.func 47) #[] #[], .func (.func 63) #[] #[]].toArray 99) :: (l1 ++ (pX, Obj.cells (fxC { f with sp := f.sp + n }).toArray 88) :: (mF, Obj.map esF ckF) :: (pF, Obj.cells (fnC mF money).toArray 83) :: L)) rfl rfl rfl Tryz.func63 (by kernel_rfl) rfl (fun w1 hw1 => by simpa using c_spdA (l1 := (p7, Obj.cells [Value.func (.func 47) #[] #[], .func (.func 63) #[] #[]].toArray 99) :: l1) n hw1 hok (by omega)) ?_
          intro _ _
          refine x_end ?_
          refine t_norm ?_
          refine w_seq ?_
          refine rg_text ?_
          refine x_val rfl rfl rfl (v_assign rfl) ?_
          refine x_end ?_
          refine t_norm ?_
          refine w_ret ?_
          refine ret1 rfl rfl (fun w' hm' => ⟨?_, (), trivial, ?_⟩)
          · unfold spdP; rw [if_neg (by omega), if_neg (by omega)]
          · unfold spdP; rw [if_neg (by omega), if_neg (by omega)]; exact hm'.less (List.sublist_cons_self _ _) (fun _ h => h)
set_option maxRecDepth 100000 in
theorem c_Enc {w : World} {l1 L : List (Nat × Obj)} {ro : List Snap} {pX mF pF : Nat} {esF : Array MapEntry} {ckF : Nat} {money : Int} {f : FSt} (hm : Mem w (l1 ++ (pX, Obj.cells (fxC f).toArray 88) :: (mF, Obj.map esF ckF) :: (pF, Obj.cells (fnC mF money).toArray 83) :: L) ro) (hF : MapF Tryz.prog 3 esF (fF pX)) (hok : fundOK f) (n : Int) :
    Calls Tryz.prog 25 #[.pointer (some ⟨pF, 0, none⟩), .int .i64 2, .int .i64 n] w fun e w' => e = .returned (.int .i64 (encP f n).1) ∧ ∃ u : Unit, True ∧ Mem w' (l1 ++ (pX, Obj.cells (fxC (encP f n).2).toArray 88) :: (mF, Obj.map esF ckF) :: (pF, Obj.cells (fnC mF money).toArray 83) :: L) ro := by
  refine enter_in hm (vs := [.pointer (some ⟨pF, 0, none⟩), .int .i64 2, .int .i64 n]) Tryz.func25 rfl Tryz.ntmps25 rfl ?_
  refine w_seq ?_
  refine rg_text ?_
  refine x_val rfl rfl rfl (v_assign rfl) ?_
  refine x_end ?_
  refine t_norm ?_
  refine w_seq ?_
  refine rg_text ?_
  refine x_val rfl rfl rfl (v_move rfl) ?_
  refine x_val rfl rfl rfl (v_move rfl) ?_
  refine x_val rfl rfl rfl (v_move rfl) ?_
  refine x_val rfl rfl rfl (v_buildL (places := [(0, 1), (1, 1)]) Tryz.underlying99 zr99 (by kernel_rfl) rfl rfl) ?_
  refine x_turnf (τ := Unit) (v := .int .i64 (encP f n).1) (fun _ => True) (fun _ => l1 ++ (pX, Obj.cells (fxC (encP f n).2).toArray 88) :: (mF, Obj.map esF ckF) :: (pF, Obj.cells (fnC mF money).toArray 83) :: L) rfl rfl Tryz.func46 (by kernel_rfl) rfl (fun w1 hw1 => c_postE hw1 hF hok n) ?_
  intro _ _
  refine x_val rfl rfl rfl (v_assign rfl) ?_
  refine x_end ?_
  refine t_norm ?_
  refine w_ret ?_
  exact ret1 rfl rfl (fun w' hm' => ⟨rfl, (), trivial, hm'⟩)
set_option maxRecDepth 100000 in
theorem c_Rel {w : World} {l1 L : List (Nat × Obj)} {ro : List Snap} {pX mF pF : Nat} {esF : Array MapEntry} {ckF : Nat} {money : Int} {f : FSt} (hm : Mem w (l1 ++ (pX, Obj.cells (fxC f).toArray 88) :: (mF, Obj.map esF ckF) :: (pF, Obj.cells (fnC mF money).toArray 83) :: L) ro) (hF : MapF Tryz.prog 3 esF (fF pX)) (hok : fundOK f) (n : Int) :
    Calls Tryz.prog 26 #[.pointer (some ⟨pF, 0, none⟩), .int .i64 2, .int .i64 n] w fun e w' => e = .returned (.int .i64 (relP f n).1) ∧ ∃ u : Unit, True ∧ Mem w' (l1 ++ (pX, Obj.cells (fxC (relP f n).2).toArray 88) :: (mF, Obj.map esF ckF) :: (pF, Obj.cells (fnC mF money).toArray 83) :: L) ro := by
  refine enter_in hm (vs := [.pointer (some ⟨pF, 0, none⟩), .int .i64 2, .int .i64 n]) Tryz.func26 rfl Tryz.ntmps26 rfl ?_
  refine w_seq ?_
  refine rg_text ?_
  refine x_val rfl rfl rfl (v_assign rfl) ?_
  refine x_end ?_
  refine t_norm ?_
  refine w_seq ?_
  refine rg_text ?_
  refine x_val rfl rfl rfl (v_assign rfl) ?_
  refine x_end ?_
  refine t_norm ?_
  refine w_seq ?_
  refine rg_text ?_
  refine x_val rfl rfl rfl (v_move rfl) ?_
  refine x_val rfl rfl rfl (v_move rfl) ?_
  refine x_val rfl rfl rfl (v_move rfl) ?_
  refine x_val rfl rfl rfl (v_move rfl) ?_
  refine x_val rfl rfl rfl (v_buildL (places := [(0, 1), (1, 1)]) Tryz.underlying99 zr99 (by kernel_rfl) rfl rfl) ?_
  refine x_turnf (τ := Unit) (v := .int .i64 (relP f n).1) (fun _ => True) (fun _ => l1 ++ (pX, Obj.cells (fxC (relP f n).2).toArray 88) :: (mF, Obj.map esF ckF) :: (pF, Obj.cells (fnC mF money).toArray 83) :: L) rfl rfl Tryz.func46 (by kernel_rfl) rfl (fun w1 hw1 => c_postR hw1 hF hok n) ?_
  intro _ _
  refine x_val rfl rfl rfl (v_assign rfl) ?_
  refine x_end ?_
  refine t_norm ?_
  refine w_ret ?_
  exact ret1 rfl rfl (fun w' hm' => ⟨rfl, (), trivial, hm'⟩)
set_option maxRecDepth 100000 in
theorem c_Spd {w : World} {l1 L : List (Nat × Obj)} {ro : List Snap} {pX mF pF : Nat} {esF : Array MapEntry} {ckF : Nat} {money : Int} {f : FSt} (hm : Mem w (l1 ++ (pX, Obj.cells (fxC f).toArray 88) :: (mF, Obj.map esF ckF) :: (pF, Obj.cells (fnC mF money).toArray 83) :: L) ro) (hF : MapF Tryz.prog 3 esF (fF pX)) (hok : fundOK f) (n : Int) :
    Calls Tryz.prog 36 #[.pointer (some ⟨pF, 0, none⟩), .int .i64 2, .int .i64 n] w fun e w' => e = .returned (.int .i64 (spdP f n).1) ∧ ∃ u : Unit, True ∧ Mem w' (l1 ++ (pX, Obj.cells (fxC (spdP f n).2).toArray 88) :: (mF, Obj.map esF ckF) :: (pF, Obj.cells (fnC mF money).toArray 83) :: L) ro := by
  refine enter_in hm (vs := [.pointer (some ⟨pF, 0, none⟩), .int .i64 2, .int .i64 n]) Tryz.func36 rfl Tryz.ntmps36 rfl ?_
  refine w_seq ?_
  refine rg_text ?_
  refine x_val rfl rfl rfl (v_assign rfl) ?_
  refine x_end ?_
  refine t_norm ?_
  refine w_seq ?_
  refine rg_text ?_
  refine x_val rfl rfl rfl (v_move rfl) ?_
  refine x_val rfl rfl rfl (v_move rfl) ?_
  refine x_val rfl rfl rfl (v_move rfl) ?_
  refine x_val rfl rfl rfl (v_buildL (places := [(0, 1), (1, 1)]) Tryz.underlying99 zr99 (by kernel_rfl) rfl rfl) ?_
  refine x_turnf (τ := Unit) (v := .int .i64 (spdP f n).1) (fun _ => True) (fun _ => l1 ++ (pX, Obj.cells (fxC (spdP f n).2).toArray 88) :: (mF, Obj.map esF ckF) :: (pF, Obj.cells (fnC mF money).toArray 83) :: L) rfl rfl Tryz.func46 (by kernel_rfl) rfl (fun w1 hw1 => c_postS hw1 hF hok n) ?_
  intro _ _
  refine x_val rfl rfl rfl (v_assign rfl) ?_
  refine x_end ?_
  refine t_norm ?_
  refine w_ret ?_
  exact ret1 rfl rfl (fun w' hm' => ⟨rfl, (), trivial, hm'⟩)

end Go.Proofs.YtdampedpgbnihaaGreatDoor

namespace Go.Proofs.YtdampedpgbnihaaGreatDoor
open Go.RowKit Go.PK
set_option linter.unusedVariables false
set_option linter.unusedSimpArgs false
set_option maxRecDepth 100000 in
theorem c_Fund {pX mF pF : Nat} {esF : Array MapEntry} {ckF : Nat} {f : FSt} (w : World) (h1 : w.cell? ⟨pF, 0, none⟩ = some (.map (some mF))) (h2 : w.heap[mF]? = some (.map esF ckF)) (hF : MapF Tryz.prog 3 esF (fF pX)) (hX : ∀ i v, (fxC f)[i]? = some v → w.cell? ⟨pX, i, none⟩ = some v) :
    Calls Tryz.prog 30 #[.pointer (some ⟨pF, 0, none⟩), .int .i64 2] w fun e w' => e = .returned (.tuple #[.agg ((fxC f).take 5).toArray, .bool true]) ∧ Later w w' := by
  refine enter (vs := [.pointer (some ⟨pF, 0, none⟩), .int .i64 2]) Tryz.func30 rfl Tryz.ntmps30 rfl ?_
  refine w_seq ?_
  refine rg_text ?_
  refine x_alloc rfl rfl rfl zr67 ?_
  intro p4
  refine x_val rfl rfl rfl (v_assign rfl) ?_
  refine x_end ?_
  refine t_norm ?_
  refine w_seq ?_
  refine w_seq ?_
  refine rg_text ?_
  refine x_val rfl rfl rfl (v_move rfl) ?_
  refine x_bool rfl rfl rfl (v_pnil (o := some ⟨pF, 0, none⟩) Tryz.underlying26 rfl rfl) ?_
  intro b7 hb7
  refine x_val rfl rfl rfl (v_move rfl) ?_
  refine x_if [] rfl rfl rfl rfl rfl (fun hg => by obtain ⟨hg0, _⟩ := hg; subst hg0; (try simp only [List.cons_append, List.nil_append, gvl_nil, gvl_t, gvl_f]); exact v_move rfl) ?_
  refine x_if [] rfl rfl rfl rfl rfl (fun hg => by obtain ⟨hg0, _⟩ := hg; subst hg0; (try simp only [List.cons_append, List.nil_append, gvl_nil, gvl_t, gvl_f]); exact v_nilCheck rfl) ?_
  refine x_if [] rfl rfl rfl rfl rfl (fun hg => by obtain ⟨hg0, _⟩ := hg; subst hg0; (try simp only [List.cons_append, List.nil_append, gvl_nil, gvl_t, gvl_f]); exact v_fieldAddr (off' := 0) Tryz.underlying83 rfl sz81 (by decide) rfl rfl) ?_
  refine x_if [] rfl rfl rfl rfl rfl (fun hg => by obtain ⟨hg0, _⟩ := hg; subst hg0; (try simp only [List.cons_append, List.nil_append, gvl_nil, gvl_t, gvl_f]); exact v_load Tryz.underlying81 rfl rfl (at_ro (.head _) trivial h1)) ?_
  refine x_if [] rfl rfl rfl rfl rfl (fun hg => by obtain ⟨hg0, _⟩ := hg; subst hg0; (try simp only [List.cons_append, List.nil_append, gvl_nil, gvl_t, gvl_f]); exact v_move rfl) ?_
  refine x_if [] rfl rfl rfl rfl rfl (v := Value.pointer (some ⟨pX, 0, none⟩)) (fun hg => by obtain ⟨hg0, _⟩ := hg; subst hg0; (try simp only [List.cons_append, List.nil_append, gvl_nil, gvl_t, gvl_f]); exact v_lookupH Tryz.underlying81 (Maps.int_keyed Tryz.underlying3) zr84 rfl rfl (Maps.keyOf_int_mk Tryz.underlying3 (by decide)) (map_ro (.head _) trivial h2) hF (by rw [fF_at]; rfl)) ?_
  refine x_ifb [] rfl rfl rfl rfl rfl (c := false) (fun hg => by obtain ⟨hg0, _⟩ := hg; subst hg0; (try simp only [List.cons_append, List.nil_append, gvl_nil, gvl_t, gvl_f]); exact v_pnil (o := some ⟨pX, 0, none⟩) Tryz.underlying84 rfl rfl) ?_
  intro b15 hb15
  refine x_bool rfl rfl rfl (v_or rfl rfl) ?_
  intro b16 hb16
  refine x_end ?_
  refine t_norm ?_
  refine w_cond rfl (fun hc16 => ?_) (fun hc16 => ?_)
  · exfalso
    rw [hb16, hb15, hb7] at hc16
    revert hc16; simp
  · simp only [hb16, decide_eq_true_eq, decide_eq_false_iff_not, Bool.and_eq_true, Bool.or_eq_true, Bool.and_eq_false_iff, Bool.or_eq_false_iff, Bool.not_eq_true', Bool.not_eq_false', ne_eq, Decidable.not_not] at hc16
    refine w_skip ?_
    refine t_norm ?_
    refine w_seq ?_
    refine rg_text ?_
    refine x_val rfl rfl rfl (v_move rfl) ?_
    refine x_val rfl rfl rfl (v_nilCheck rfl) ?_
    refine x_val rfl rfl rfl (v_fieldAddr (off' := 0) Tryz.underlying83 rfl sz81 (by decide) rfl rfl) ?_
    refine x_val rfl rfl rfl (v_load Tryz.underlying81 rfl rfl (at_ro (.head _) trivial h1)) ?_
    refine x_val rfl rfl rfl (v_move rfl) ?_
    refine x_val (v := Value.pointer (some ⟨pX, 0, none⟩)) rfl rfl rfl (v_lookupH Tryz.underlying81 (Maps.int_keyed Tryz.underlying3) zr84 rfl rfl (Maps.keyOf_int_mk Tryz.underlying3 (by decide)) (map_ro (.head _) trivial h2) hF (by rw [fF_at]; rfl)) ?_
    refine x_val rfl rfl rfl (v_nilCheck rfl) ?_
    refine x_val rfl rfl rfl (v_fieldAddr Tryz.underlying88 rfl sz67 (by decide) rfl rfl) ?_
    refine x_val rfl rfl rfl (v_loadN (vs := (fxC f).take 5) Tryz.underlying67 rfl sz67 rfl (fun i hi => at_ro (.head _) trivial (by match i, hi with | 0, _ => exact hX 0 _ rfl | 1, _ => exact hX 1 _ rfl | 2, _ => exact hX 2 _ rfl | 3, _ => exact hX 3 _ rfl | 4, _ => exact hX 4 _ rfl))) ?_
    refine x_store0 [] rfl rfl rfl rfl sz67 rfl rfl ?_
    refine x_val rfl rfl rfl (v_assign rfl) ?_
    refine x_end ?_
    refine t_norm ?_
    refine w_ret ?_
    refine retct (cs := ((fxC f).take 5).toArray) rfl rfl rfl (.head _) Tryz.underlying67 rfl sz67 (fun w' hm => ⟨rfl, hm.base (by simp)⟩)
set_option maxRecDepth 100000 in
theorem c_Free {pX mF pF : Nat} {esF : Array MapEntry} {ckF : Nat} {f : FSt} (w : World) (h1 : w.cell? ⟨pF, 0, none⟩ = some (.map (some mF))) (h2 : w.heap[mF]? = some (.map esF ckF)) (hF : MapF Tryz.prog 3 esF (fF pX)) (hX : ∀ i v, (fxC f)[i]? = some v → w.cell? ⟨pX, i, none⟩ = some v) (hok : fundOK f) :
    Calls Tryz.prog 35 #[.pointer (some ⟨pF, 0, none⟩), .int .i64 2] w fun e w' => e = .returned (.int .i64 (f.free)) ∧ Later w w' := by
  refine enter (vs := [.pointer (some ⟨pF, 0, none⟩), .int .i64 2]) Tryz.func35 rfl Tryz.ntmps35 rfl ?_
  refine w_seq ?_
  refine rg_text ?_
  refine x_val rfl rfl rfl (v_assign rfl) ?_
  refine x_end ?_
  refine t_norm ?_
  refine w_seq ?_
  refine w_seq ?_
  refine rg_text ?_
  refine x_val rfl rfl rfl (v_move rfl) ?_
  refine x_bool rfl rfl rfl (v_pnil (o := some ⟨pF, 0, none⟩) Tryz.underlying26 rfl rfl) ?_
  intro b6 hb6
  refine x_val rfl rfl rfl (v_move rfl) ?_
  refine x_if [] rfl rfl rfl rfl rfl (fun hg => by obtain ⟨hg0, _⟩ := hg; subst hg0; (try simp only [List.cons_append, List.nil_append, gvl_nil, gvl_t, gvl_f]); exact v_move rfl) ?_
  refine x_if [] rfl rfl rfl rfl rfl (fun hg => by obtain ⟨hg0, _⟩ := hg; subst hg0; (try simp only [List.cons_append, List.nil_append, gvl_nil, gvl_t, gvl_f]); exact v_nilCheck rfl) ?_
  refine x_if [] rfl rfl rfl rfl rfl (fun hg => by obtain ⟨hg0, _⟩ := hg; subst hg0; (try simp only [List.cons_append, List.nil_append, gvl_nil, gvl_t, gvl_f]); exact v_fieldAddr (off' := 0) Tryz.underlying83 rfl sz81 (by decide) rfl rfl) ?_
  refine x_if [] rfl rfl rfl rfl rfl (fun hg => by obtain ⟨hg0, _⟩ := hg; subst hg0; (try simp only [List.cons_append, List.nil_append, gvl_nil, gvl_t, gvl_f]); exact v_load Tryz.underlying81 rfl rfl (at_ro (.head _) trivial h1)) ?_
  refine x_if [] rfl rfl rfl rfl rfl (fun hg => by obtain ⟨hg0, _⟩ := hg; subst hg0; (try simp only [List.cons_append, List.nil_append, gvl_nil, gvl_t, gvl_f]); exact v_move rfl) ?_
  refine x_if [] rfl rfl rfl rfl rfl (v := Value.pointer (some ⟨pX, 0, none⟩)) (fun hg => by obtain ⟨hg0, _⟩ := hg; subst hg0; (try simp only [List.cons_append, List.nil_append, gvl_nil, gvl_t, gvl_f]); exact v_lookupH Tryz.underlying81 (Maps.int_keyed Tryz.underlying3) zr84 rfl rfl (Maps.keyOf_int_mk Tryz.underlying3 (by decide)) (map_ro (.head _) trivial h2) hF (by rw [fF_at]; rfl)) ?_
  refine x_ifb [] rfl rfl rfl rfl rfl (c := false) (fun hg => by obtain ⟨hg0, _⟩ := hg; subst hg0; (try simp only [List.cons_append, List.nil_append, gvl_nil, gvl_t, gvl_f]); exact v_pnil (o := some ⟨pX, 0, none⟩) Tryz.underlying84 rfl rfl) ?_
  intro b14 hb14
  refine x_bool rfl rfl rfl (v_or rfl rfl) ?_
  intro b15 hb15
  refine x_end ?_
  refine t_norm ?_
  refine w_cond rfl (fun hc15 => ?_) (fun hc15 => ?_)
  · exfalso
    rw [hb15, hb14, hb6] at hc15
    revert hc15; simp
  · simp only [hb15, decide_eq_true_eq, decide_eq_false_iff_not, Bool.and_eq_true, Bool.or_eq_true, Bool.and_eq_false_iff, Bool.or_eq_false_iff, Bool.not_eq_true', Bool.not_eq_false', ne_eq, Decidable.not_not] at hc15
    refine w_skip ?_
    refine t_norm ?_
    refine w_seq ?_
    refine rg_text ?_
    refine x_val rfl rfl rfl (v_move rfl) ?_
    refine x_val rfl rfl rfl (v_nilCheck rfl) ?_
    refine x_val rfl rfl rfl (v_fieldAddr (off' := 0) Tryz.underlying83 rfl sz81 (by decide) rfl rfl) ?_
    refine x_val rfl rfl rfl (v_load Tryz.underlying81 rfl rfl (at_ro (.head _) trivial h1)) ?_
    refine x_val rfl rfl rfl (v_move rfl) ?_
    refine x_val (v := Value.pointer (some ⟨pX, 0, none⟩)) rfl rfl rfl (v_lookupH Tryz.underlying81 (Maps.int_keyed Tryz.underlying3) zr84 rfl rfl (Maps.keyOf_int_mk Tryz.underlying3 (by decide)) (map_ro (.head _) trivial h2) hF (by rw [fF_at]; rfl)) ?_
    refine x_callv rfl rfl rfl Tryz.func47 (by kernel_rfl) rfl (fun w1 hw1 => c_free (f := f) w1 (fun i v hv => at_ro (.head _) trivial (hX i v hv) w1 hw1) hok) ?_
    refine x_val rfl rfl rfl (v_assign rfl) ?_
    refine x_end ?_
    refine t_norm ?_
    refine w_ret ?_
    refine ret1 rfl rfl (fun w' hm => ⟨?_, hm.base (by simp)⟩)
    rfl

end Go.Proofs.YtdampedpgbnihaaGreatDoor

namespace Go.Proofs.YtdampedpgbnihaaGreatDoor
open Go.RowKit Go.PK
set_option linter.unusedVariables false
set_option linter.unusedSimpArgs false
set_option maxRecDepth 100000 in
theorem c_FNew (w : World) :
    Calls Tryz.prog 18 #[] w fun e w' => ∃ pF, e = .returned (.pointer (some ⟨pF, 0, none⟩)) ∧ Mem w' [(pF, Obj.cells [Value.map none, .int .i64 0].toArray 83)] [(w, fun _ => True)] := by
  refine enter (vs := []) Tryz.func18 rfl Tryz.ntmps18 rfl ?_
  refine w_seq ?_
  refine rg_text ?_
  refine x_val rfl rfl rfl (v_assign rfl) ?_
  refine x_end ?_
  refine t_norm ?_
  refine w_seq ?_
  refine rg_text ?_
  refine x_val (v := Value.agg #[.map none, .int .i64 0]) rfl rfl rfl (v_buildL (cs := [Value.map none, .int .i64 0]) (places := [(0, 1), (1, 1)]) Tryz.underlying83 zr83 (by kernel_rfl) rfl rfl) ?_
  refine x_box rfl rfl rfl rfl ?_
  intro p2
  refine x_val rfl rfl rfl (v_assign rfl) ?_
  refine x_end ?_
  refine t_norm ?_
  refine w_ret ?_
  exact ret1 rfl rfl (fun w' hm => ⟨_, rfl, hm⟩)
set_option maxRecDepth 100000 in
theorem c_Fput {w : World} {L : List (Nat × Obj)} {ro : List Snap} {pF : Nat} (al : Int) (hm : Mem w ((pF, Obj.cells [Value.map none, .int .i64 0].toArray 83) :: L) ro) (hal : 0 ≤ al ∧ al ≤ 1000000000000000) :
    Calls Tryz.prog 39 #[.pointer (some ⟨pF, 0, none⟩), .agg #[.int .i64 2, .int .i64 0, .int .i64 al, .int .i64 0, .int .i64 0]] w fun e w' => ∃ v, e = .returned v ∧ ∃ x : Nat × Nat × Array MapEntry × Nat, (v = .pointer (some ⟨x.1, 0, none⟩) ∧ MapF Tryz.prog 3 x.2.2.1 (fF x.1)) ∧ Mem w' ((x.1, Obj.cells (fxC ⟨al, 0, 0⟩).toArray 88) :: (x.2.1, Obj.map x.2.2.1 x.2.2.2) :: (pF, Obj.cells (fnC x.2.1 al).toArray 83) :: L) ro := by
  refine enter_in hm (vs := [.pointer (some ⟨pF, 0, none⟩), .agg #[.int .i64 2, .int .i64 0, .int .i64 al, .int .i64 0, .int .i64 0]]) Tryz.func39 rfl Tryz.ntmps39 rfl ?_
  refine w_seq ?_
  refine rg_text ?_
  refine x_box rfl rfl rfl rfl ?_
  intro p3
  refine x_val rfl rfl rfl (v_assign rfl) ?_
  refine x_end ?_
  refine t_norm ?_
  refine w_seq ?_
  refine w_seq ?_
  refine rg_text ?_
  refine x_val rfl rfl rfl (v_move rfl) ?_
  refine x_val rfl rfl rfl (v_nilCheck rfl) ?_
  refine x_val rfl rfl rfl (v_fieldAddr (off' := 0) Tryz.underlying83 rfl sz81 (by decide) rfl rfl) ?_
  refine x_val rfl rfl rfl (v_load Tryz.underlying81 rfl rfl (at_ownL (vs := [Value.map none, .int .i64 0]) (.tail _ (.head _)) rfl)) ?_
  refine x_val (v := Value.bool true) rfl rfl rfl (v_eqm (p := none) Tryz.underlying81 rfl rfl) ?_
  refine x_end ?_
  refine t_norm ?_
  refine w_cond rfl (fun hc10 => ?_) (fun hc10 => ?_)
  · skip
    refine rg_text ?_
    refine x_val rfl rfl rfl (v_move rfl) ?_
    refine x_makeMap rfl rfl rfl ?_
    intro p12
    refine x_val rfl rfl rfl (v_nilCheck rfl) ?_
    refine x_val rfl rfl rfl (v_fieldAddr (off' := 0) Tryz.underlying83 rfl sz81 (by decide) rfl rfl) ?_
    refine x_store (cs := [Value.map none, .int .i64 0]) (off := 0) (e := 83) (l2 := L) [(p12, Obj.map #[] 0), (p3, Obj.cells [Value.int .i64 2, .int .i64 0, .int .i64 al, .int .i64 0, .int .i64 0].toArray 67)] rfl rfl rfl rfl sz81 rfl (by show 1 ≤ 2; decide) ?_
    refine x_end ?_
    refine t_norm ?_
    refine w_seq ?_
    refine rg_text ?_
    refine x_val rfl rfl rfl (v_load_blk Tryz.underlying67 rfl rfl (by first | exact .head _ | exact .tail _ (.head _) | exact .tail _ (.tail _ (.head _)) | (repeat (first | exact List.Mem.head _ | apply List.Mem.tail | apply List.mem_append_right))) (by exact sz67)) ?_
    refine x_val (v := Value.agg (fxC ⟨al, 0, 0⟩).toArray) rfl rfl rfl (v_buildL (cs := fxC ⟨al, 0, 0⟩) (places := [(0, 5), (5, 1)]) Tryz.underlying88 zr88 (by kernel_rfl) rfl rfl) ?_
    refine x_box rfl rfl rfl rfl ?_
    intro p17
    refine x_val rfl rfl rfl (v_assign rfl) ?_
    refine x_end ?_
    refine t_norm ?_
    refine w_seq ?_
    refine rg_draw 7 [(true, 0), (true, 1), (true, 2), (true, 3), (true, 4), (true, 5), (true, 6)] (by kernel_rfl) (by kernel_rfl) ?_
    refine x_val rfl rfl rfl (v_move rfl) ?_
    refine x_val rfl rfl rfl (v_nilCheck rfl) ?_
    refine x_val rfl rfl rfl (v_fieldAddr (off' := 0) Tryz.underlying83 rfl sz81 (by decide) rfl rfl) ?_
    refine x_val rfl rfl rfl (v_load Tryz.underlying81 rfl rfl (by first | exact at_ownL (.head _) rfl | exact at_ownL (.tail _ (.head _)) rfl | exact at_ownL (.tail _ (.tail _ (.head _))) rfl | (apply at_ownL; ((repeat (first | exact List.Mem.head _ | apply List.Mem.tail | apply List.mem_append_right))); rfl) | (refine at_ro (by first | exact .head _ | exact .tail _ (.head _) | exact .tail _ (.tail _ (.head _)) | simp) ?_ (by assumption); trivial))) ?_
    refine x_val rfl rfl rfl (v_fieldAddr (off' := 0) Tryz.underlying67 rfl sz3 (by decide) rfl rfl) ?_
    refine x_val rfl rfl rfl (v_load Tryz.underlying3 rfl rfl (by first | exact at_ownL (.head _) rfl | exact at_ownL (.tail _ (.head _)) rfl | exact at_ownL (.tail _ (.tail _ (.head _))) rfl | (apply at_ownL; ((repeat (first | exact List.Mem.head _ | apply List.Mem.tail | apply List.mem_append_right))); rfl) | (refine at_ro (by first | exact .head _ | exact .tail _ (.head _) | exact .tail _ (.tail _ (.head _)) | simp) ?_ (by assumption); trivial))) ?_
    refine x_val rfl rfl rfl (v_move rfl) ?_
    refine x_mapUpdate [(p17, Obj.cells (fxC ⟨al, 0, 0⟩).toArray 88)] rfl rfl rfl rfl Tryz.underlying81 (Maps.int_keyed Tryz.underlying3) (Maps.keyOf_int_mk Tryz.underlying3 (by decide)) rfl MapF.empty ?_
    intro es21 clock21 hmf21
    refine x_end ?_
    refine t_norm ?_
    refine w_seq ?_
    refine rg_draw 9 [(true, 0), (true, 1), (true, 2), (true, 3), (true, 4), (true, 5), (true, 6), (true, 7), (true, 8)] (by kernel_rfl) (by kernel_rfl) ?_
    refine x_val rfl rfl rfl (v_move rfl) ?_
    refine x_val rfl rfl rfl (v_nilCheck rfl) ?_
    refine x_val rfl rfl rfl (v_fieldAddr (off' := 1) Tryz.underlying83 rfl sz3 (by decide) rfl rfl) ?_
    refine x_val rfl rfl rfl (v_load Tryz.underlying3 rfl rfl (by first | exact at_ownL (.head _) rfl | exact at_ownL (.tail _ (.head _)) rfl | exact at_ownL (.tail _ (.tail _ (.head _))) rfl | (apply at_ownL; ((repeat (first | exact List.Mem.head _ | apply List.Mem.tail | apply List.mem_append_right))); rfl) | (refine at_ro (by first | exact .head _ | exact .tail _ (.head _) | exact .tail _ (.tail _ (.head _)) | simp) ?_ (by assumption); trivial))) ?_
    refine x_val rfl rfl rfl (v_fieldAddr (off' := 2) Tryz.underlying67 rfl sz3 (by decide) rfl rfl) ?_
    refine x_val rfl rfl rfl (v_load Tryz.underlying3 rfl rfl (by first | exact at_ownL (.head _) rfl | exact at_ownL (.tail _ (.head _)) rfl | exact at_ownL (.tail _ (.tail _ (.head _))) rfl | (apply at_ownL; ((repeat (first | exact List.Mem.head _ | apply List.Mem.tail | apply List.mem_append_right))); rfl) | (refine at_ro (by first | exact .head _ | exact .tail _ (.head _) | exact .tail _ (.tail _ (.head _)) | simp) ?_ (by assumption); trivial))) ?_
    refine x_val rfl rfl rfl (v_addi (c := al) rfl rfl (by omega) (by omega)) ?_
    refine x_val rfl rfl rfl (v_nilCheck rfl) ?_
    refine x_val rfl rfl rfl (v_fieldAddr (off' := 1) Tryz.underlying83 rfl sz3 (by decide) rfl rfl) ?_
    refine x_store (cs := [Value.map (some p12), .int .i64 0]) (off := 1) (e := 83) (l2 := L) [(p17, Obj.cells (fxC ⟨al, 0, 0⟩).toArray 88), (p12, Obj.map es21 clock21), (p3, Obj.cells [Value.int .i64 2, .int .i64 0, .int .i64 al, .int .i64 0, .int .i64 0].toArray 67)] rfl rfl rfl rfl sz3 rfl (by show 2 ≤ 2; decide) ?_
    refine x_end ?_
    refine t_norm ?_
    refine w_seq ?_
    refine rg_text ?_
    refine x_val rfl rfl rfl (v_move rfl) ?_
    refine x_val rfl rfl rfl (v_assign rfl) ?_
    refine x_end ?_
    refine t_norm ?_
    refine w_ret ?_
    refine ret1 rfl rfl (fun w' hm' => ⟨_, rfl, (p17, p12, es21, clock21), ⟨rfl, hmf21⟩, hm'.less ?_ (fun _ h => h)⟩)
    exact List.Sublist.cons_cons _ (List.Sublist.cons_cons _ (List.Sublist.cons _ (List.Sublist.refl _)))
  · cases hc10
set_option maxRecDepth 100000 in
theorem c_ONew {pF : Nat} (t : Int) (w : World) :
    Calls Tryz.prog 20 #[.pointer (some ⟨pF, 0, none⟩), .int .i64 t] w fun e w' => ∃ x : Nat × Nat, e = .returned (.pointer (some ⟨x.1, 0, none⟩)) ∧ Mem w' [(x.1, Obj.cells (orC pF (min (max t 0) 1000000) x.2).toArray 58), (x.2, Obj.map #[] 0)] [(w, fun _ => True)] := by
  refine enter (vs := [.pointer (some ⟨pF, 0, none⟩), .int .i64 t]) Tryz.func20 rfl Tryz.ntmps20 rfl ?_
  refine w_seq ?_
  refine rg_text ?_
  refine x_val rfl rfl rfl (v_assign rfl) ?_
  refine x_end ?_
  refine t_norm ?_
  refine w_seq ?_
  refine rg_text ?_
  refine x_val rfl rfl rfl (v_move rfl) ?_
  refine x_val rfl rfl rfl (v_move rfl) ?_
  refine x_val (v := Value.int .i64 (max t 0)) rfl rfl rfl (v_max rfl rfl) ?_
  refine x_val (v := Value.int .i64 (min (max t 0) 1000000)) rfl rfl rfl (v_min rfl rfl) ?_
  refine x_makeMap rfl rfl rfl ?_
  intro p9
  refine x_val (v := Value.agg (orC pF (min (max t 0) 1000000) p9).toArray) rfl rfl rfl (v_buildL (cs := orC pF (min (max t 0) 1000000) p9) (places := [(0, 1), (1, 1), (2, 1)]) Tryz.underlying58 zr58 (by kernel_rfl) rfl rfl) ?_
  refine x_box rfl rfl rfl rfl ?_
  intro p11
  refine x_val rfl rfl rfl (v_assign rfl) ?_
  refine x_end ?_
  refine t_norm ?_
  refine w_ret ?_
  exact ret1 rfl rfl (fun w' hm => ⟨(_, _), rfl, hm⟩)
set_option maxRecDepth 100000 in
theorem c_near {pO : Nat} {tol : Int} (p q : Int) (w : World) (h1 : w.cell? ⟨pO, 1, none⟩ = some (.int .i64 tol)) (ht : 0 ≤ tol ∧ tol ≤ 1000000) (hp : 0 ≤ p ∧ p ≤ 999999999) (hq : 0 ≤ q ∧ q ≤ 999999999) :
    Calls Tryz.prog 23 #[.pointer (some ⟨pO, 0, none⟩), .int .i64 p, .int .i64 q] w fun e w' => e = .returned (.bool (decide (nearP tol p q))) ∧ Later w w' := by
  have hmul := mul9 (a := 1000000) (b := 999999999) ht hq
  refine enter (vs := [.pointer (some ⟨pO, 0, none⟩), .int .i64 p, .int .i64 q]) Tryz.func23 rfl Tryz.ntmps23 rfl ?_
  refine w_seq ?_
  refine rg_text ?_
  refine x_val rfl rfl rfl (v_assign rfl) ?_
  refine x_end ?_
  refine t_norm ?_
  refine w_seq ?_
  refine rg_text ?_
  refine x_val rfl rfl rfl (v_move rfl) ?_
  refine x_val rfl rfl rfl (v_move rfl) ?_
  refine x_val rfl rfl rfl (v_subi rfl rfl rfl (by first | omega | (dsimp only; omega))) ?_
  refine x_val rfl rfl rfl (v_move rfl) ?_
  refine x_val rfl rfl rfl (v_move rfl) ?_
  refine x_val rfl rfl rfl (v_subi rfl rfl rfl (by first | omega | (dsimp only; omega))) ?_
  refine x_val rfl rfl rfl (v_max rfl rfl) ?_
  refine x_val rfl rfl rfl (v_muli rfl rfl rfl (by first | omega | (dsimp only; omega))) ?_
  refine x_val rfl rfl rfl (v_move rfl) ?_
  refine x_val rfl rfl rfl (v_nilCheck rfl) ?_
  refine x_val rfl rfl rfl (v_fieldAddr (off' := 1) Tryz.underlying58 rfl sz3 (by decide) rfl rfl) ?_
  refine x_val rfl rfl rfl (v_load Tryz.underlying3 rfl rfl (at_ro (.head _) trivial h1)) ?_
  refine x_val rfl rfl rfl (v_move rfl) ?_
  refine x_val rfl rfl rfl (v_muli rfl rfl rfl (by first | omega | (dsimp only; omega))) ?_
  refine x_bool rfl rfl rfl (v_leq rfl rfl) ?_
  intro b21 hb21
  refine x_val rfl rfl rfl (v_assign rfl) ?_
  refine x_end ?_
  refine t_norm ?_
  refine w_ret ?_
  refine ret1 rfl rfl (fun w' hm => ⟨?_, hm.base (by simp)⟩)
  rw [hb21]; rfl
set_option maxRecDepth 100000 in
theorem c_res (x : PK.Ord) (first : Int) (w : World) (hx : ordR x) :
    Calls Tryz.prog 24 #[.agg (orC10 x first).toArray] w fun e w' => e = .returned (.int .i64 (resP x)) ∧ Later w w' := by
  obtain ⟨⟨o1, o2⟩, ⟨o3, o4⟩, ⟨o5, o6⟩, ⟨o7, o8⟩, ⟨o9, o10⟩, o11, o12, o13, o14⟩ := id hx
  have hmul := res_rng hx
  refine enter (vs := [.agg (orC10 x first).toArray]) Tryz.func24 rfl Tryz.ntmps24 rfl ?_
  refine w_seq ?_
  refine rg_text ?_
  refine x_box rfl rfl rfl rfl ?_
  intro p1
  refine x_val rfl rfl rfl (v_assign rfl) ?_
  refine x_end ?_
  refine t_norm ?_
  refine w_seq ?_
  refine rg_text ?_
  refine x_val rfl rfl rfl (v_fieldAddr (off' := 0) Tryz.underlying54 rfl sz35 (by decide) rfl rfl) ?_
  refine x_val rfl rfl rfl (v_fieldAddr (off' := 6) Tryz.underlying35 rfl sz3 (by decide) rfl rfl) ?_
  refine x_val rfl rfl rfl (v_load Tryz.underlying3 rfl rfl (at_ownL (vs := (orC10 x first)) (.head _) rfl)) ?_
  refine x_val rfl rfl rfl (v_fieldAddr (off' := 0) Tryz.underlying54 rfl sz35 (by decide) rfl rfl) ?_
  refine x_val rfl rfl rfl (v_fieldAddr (off' := 7) Tryz.underlying35 rfl sz3 (by decide) rfl rfl) ?_
  refine x_val rfl rfl rfl (v_load Tryz.underlying3 rfl rfl (at_ownL (vs := (orC10 x first)) (.head _) rfl)) ?_
  refine x_val rfl rfl rfl (v_subi rfl rfl rfl (by first | omega | (dsimp only; omega))) ?_
  refine x_val rfl rfl rfl (v_fieldAddr (off' := 0) Tryz.underlying54 rfl sz35 (by decide) rfl rfl) ?_
  refine x_val rfl rfl rfl (v_fieldAddr (off' := 5) Tryz.underlying35 rfl sz3 (by decide) rfl rfl) ?_
  refine x_val rfl rfl rfl (v_load Tryz.underlying3 rfl rfl (at_ownL (vs := (orC10 x first)) (.head _) rfl)) ?_
  refine x_val rfl rfl rfl (v_muli rfl rfl rfl (by first | omega | (dsimp only; omega))) ?_
  refine x_val rfl rfl rfl (v_assign rfl) ?_
  refine x_end ?_
  refine t_norm ?_
  refine w_ret ?_
  refine ret1 rfl rfl (fun w' hm => ⟨?_, hm.base (by simp)⟩)
  rfl
set_option maxRecDepth 100000 in
theorem c_wrt (x : PK.Ord) (w : World) (hx : x.okA) (hL : LD w) :
    Calls Tryz.prog 38 #[.agg x.cells.toArray] w fun e w' => e = .returned (.bool (writB x)) ∧ Later w w' := by
  refine enter (vs := [.agg x.cells.toArray]) Tryz.func38 rfl Tryz.ntmps38 rfl ?_
  refine w_seq ?_
  refine rg_text ?_
  refine x_box rfl rfl rfl rfl ?_
  intro p1
  refine x_val rfl rfl rfl (v_assign rfl) ?_
  refine x_end ?_
  refine t_norm ?_
  refine w_seq ?_
  refine rg_text ?_
  refine x_val rfl rfl rfl (v_load_blk (e := 35) (fz := (0, 0)) (cs := x.cells.toArray) Tryz.underlying35 rfl rfl (.head _) sz35) ?_
  refine x_call (R := fun v wa wb => ∃ A1 c1, v = .slice A1 (orderR x).length c1) rfl rfl rfl Tryz.func44 (by kernel_rfl) rfl (fun w1 hw1 => (c_Order x w1 hx.1 (hL.later (hw1.base (by simp)))).mono fun e w2 ⟨v, h1, h2, h3, h4⟩ => by obtain ⟨A1, c1, rfl, _⟩ := id h3; exact ⟨_, h1, h2, A1, c1, rfl⟩) ?_
  intro v4 wa4 wb4 hm4 hl4 hR4
  obtain ⟨A4, c4, rfl⟩ := hR4
  refine x_val rfl rfl rfl (v_len_slice Tryz.underlying64 rfl) ?_
  refine x_bool rfl rfl rfl (v_gtr rfl rfl) ?_
  intro b6 hb6
  refine x_val rfl rfl rfl (v_assign rfl) ?_
  refine x_end ?_
  refine t_norm ?_
  refine w_ret ?_
  refine ret1 rfl rfl (fun w' hm => ⟨?_, hm.base (by simp)⟩)
  rw [hb6]; unfold orderR; split <;> rename_i h <;> simp [h, orderP]

end Go.Proofs.YtdampedpgbnihaaGreatDoor

namespace Go.Proofs.YtdampedpgbnihaaGreatDoor
open Go.RowKit Go.PK
set_option linter.unusedVariables false
set_option linter.unusedSimpArgs false
set_option maxRecDepth 100000 in
theorem c_FAdd {w : World} {L : List (Nat × Obj)} {ro : List Snap} {pF : Nat} (al : Int) (hm : Mem w ((pF, Obj.cells [Value.map none, .int .i64 0].toArray 83) :: L) ro) (hal : 0 ≤ al ∧ al ≤ 1000000000000000) :
    Calls Tryz.prog 19 #[.pointer (some ⟨pF, 0, none⟩), .int .i64 2, .int .i64 0, .int .i64 al] w fun e w' => e = .returned (.int .i64 0) ∧ ∃ x : Nat × Nat × Array MapEntry × Nat, MapF Tryz.prog 3 x.2.2.1 (fF x.1) ∧ Mem w' ((x.1, Obj.cells (fxC ⟨al, 0, 0⟩).toArray 88) :: (x.2.1, Obj.map x.2.2.1 x.2.2.2) :: (pF, Obj.cells (fnC x.2.1 al).toArray 83) :: L) ro := by
  refine enter_in hm (vs := [.pointer (some ⟨pF, 0, none⟩), .int .i64 2, .int .i64 0, .int .i64 al]) Tryz.func19 rfl Tryz.ntmps19 rfl ?_
  refine w_seq ?_
  refine rg_text ?_
  refine x_val rfl rfl rfl (v_assign rfl) ?_
  refine x_end ?_
  refine t_norm ?_
  refine w_seq ?_
  refine w_seq ?_
  refine rg_text ?_
  refine x_val rfl rfl rfl (v_move rfl) ?_
  refine x_bool rfl rfl rfl (v_pnil (o := some ⟨pF, 0, none⟩) Tryz.underlying26 rfl rfl) ?_
  intro b12 hb12
  refine x_val rfl rfl rfl (v_move rfl) ?_
  refine x_if [] rfl rfl rfl rfl rfl (fun hg => by obtain ⟨hg0, _⟩ := hg; subst hg0; (try simp only [List.cons_append, List.nil_append, gvl_nil, gvl_t, gvl_f]); exact v_move rfl) ?_
  refine x_ifb [] rfl rfl rfl rfl rfl (fun hg => by obtain ⟨hg0, _⟩ := hg; subst hg0; (try simp only [List.cons_append, List.nil_append, gvl_nil, gvl_t, gvl_f]); exact v_lss rfl rfl) ?_
  intro b15 hb15
  refine x_bool rfl rfl rfl (v_or rfl rfl) ?_
  intro b16 hb16
  refine x_val rfl rfl rfl (v_move rfl) ?_
  refine x_if [] rfl rfl rfl rfl rfl (fun hg => by obtain ⟨hg0, _⟩ := hg; subst hg0; (try simp only [List.cons_append, List.nil_append, gvl_nil, gvl_t, gvl_f]); exact v_move rfl) ?_
  refine x_if [] rfl rfl rfl rfl rfl (fun hg => by obtain ⟨hg0, _⟩ := hg; subst hg0; (try simp only [List.cons_append, List.nil_append, gvl_nil, gvl_t, gvl_f]); exact v_move rfl) ?_
  refine x_if [] rfl rfl rfl rfl rfl (v := Value.int .i64 (min 0 al)) (fun hg => by obtain ⟨hg0, _⟩ := hg; subst hg0; (try simp only [List.cons_append, List.nil_append, gvl_nil, gvl_t, gvl_f]); exact v_min rfl rfl) ?_
  refine x_ifb [] rfl rfl rfl rfl rfl (fun hg => by obtain ⟨hg0, _⟩ := hg; subst hg0; (try simp only [List.cons_append, List.nil_append, gvl_nil, gvl_t, gvl_f]); exact v_lss rfl rfl) ?_
  intro b21 hb21
  refine x_bool rfl rfl rfl (v_or rfl rfl) ?_
  intro b22 hb22
  refine x_end ?_
  refine t_norm ?_
  refine w_cond rfl (fun hc22 => ?_) (fun hc22 => ?_)
  · exfalso
    rw [hb22, hb21, hb16, hb15, hb12] at hc22
    revert hc22; simp; omega
  · simp only [hb22, hb21, hb16, hb15, decide_eq_true_eq, decide_eq_false_iff_not, Bool.and_eq_true, Bool.or_eq_true, Bool.and_eq_false_iff, Bool.or_eq_false_iff, Bool.not_eq_true', Bool.not_eq_false', ne_eq, Decidable.not_not] at hc22
    refine w_skip ?_
    refine t_norm ?_
    refine w_seq ?_
    refine rg_text ?_
    refine x_val rfl rfl rfl (v_move rfl) ?_
    refine x_val rfl rfl rfl (v_nilCheck rfl) ?_
    refine x_val rfl rfl rfl (v_fieldAddr (off' := 0) Tryz.underlying83 rfl sz81 (by decide) rfl rfl) ?_
    refine x_val rfl rfl rfl (v_load Tryz.underlying81 rfl rfl (at_ownL (vs := [Value.map none, .int .i64 0]) (.head _) rfl)) ?_
    refine x_val rfl rfl rfl (v_move rfl) ?_
    refine x_val (v := Value.pointer none) rfl rfl rfl (v_lookup_nil Tryz.underlying81 (Maps.int_keyed Tryz.underlying3) zr84 rfl rfl (Maps.keyOf_int_mk Tryz.underlying3 (by decide))) ?_
    refine x_val rfl rfl rfl (v_assign rfl) ?_
    refine x_end ?_
    refine t_norm ?_
    refine w_seq ?_
    refine w_block ?_
    refine w_seq ?_
    refine rg_text ?_
    refine x_val rfl rfl rfl (v_move rfl) ?_
    refine x_val rfl rfl rfl (v_nilCheck rfl) ?_
    refine x_val rfl rfl rfl (v_fieldAddr (off' := 0) Tryz.underlying83 rfl sz81 (by decide) rfl rfl) ?_
    refine x_val rfl rfl rfl (v_load Tryz.underlying81 rfl rfl (at_ownL (vs := [Value.map none, .int .i64 0]) (.head _) rfl)) ?_
    refine x_val rfl rfl rfl (v_move rfl) ?_
    refine x_val (v := Value.pointer none) rfl rfl rfl (v_lookup_nil Tryz.underlying81 (Maps.int_keyed Tryz.underlying3) zr84 rfl rfl (Maps.keyOf_int_mk Tryz.underlying3 (by decide))) ?_
    refine x_val (v := Value.bool false) rfl rfl rfl (v_nep (p := none) Tryz.underlying84 rfl rfl) ?_
    refine x_val rfl rfl rfl (v_assign rfl) ?_
    refine x_end ?_
    refine t_norm ?_
    refine w_cond rfl (fun hc29 => ?_) (fun hc29 => ?_)
    · cases hc29
    · skip
      refine w_seq ?_
      refine rg_text ?_
      refine x_val rfl rfl rfl (v_move rfl) ?_
      refine x_bool rfl rfl rfl (v_neq rfl rfl) ?_
      intro b39 hb39
      refine x_val rfl rfl rfl (v_move rfl) ?_
      refine x_if [] rfl rfl rfl rfl rfl (fun hg => by obtain ⟨hg0, _⟩ := hg; subst hg0; (try simp only [List.cons_append, List.nil_append, gvl_nil, gvl_t, gvl_f]); exact v_move rfl) ?_
      refine x_ifb [] rfl rfl rfl rfl rfl (c := true) (fun hg => by obtain ⟨hg0, _⟩ := hg; subst hg0; (try simp only [List.cons_append, List.nil_append, gvl_nil, gvl_t, gvl_f]); exact v_pnil (o := none) Tryz.underlying84 rfl rfl) ?_
      intro b42 hb42
      refine x_bool rfl rfl rfl (v_and rfl rfl) ?_
      intro b43 hb43
      refine x_val rfl rfl rfl (v_assign rfl) ?_
      refine x_end ?_
      refine t_norm ?_
      refine w_cond rfl (fun hc37 => ?_) (fun hc37 => ?_)
      · exfalso
        rw [hb43, hb39] at hc37
        revert hc37; simp
      · simp only [hb43, hb39, decide_eq_true_eq, decide_eq_false_iff_not, Bool.and_eq_true, Bool.or_eq_true, Bool.and_eq_false_iff, Bool.or_eq_false_iff, Bool.not_eq_true', Bool.not_eq_false', ne_eq, Decidable.not_not] at hc37
        refine w_seq ?_
        refine rg_text ?_
        refine x_val rfl rfl rfl (v_move rfl) ?_
        refine x_val rfl rfl rfl (v_nilCheck rfl) ?_
        refine x_val rfl rfl rfl (v_fieldAddr (off' := 0) Tryz.underlying83 rfl sz81 (by decide) rfl rfl) ?_
        refine x_val rfl rfl rfl (v_load Tryz.underlying81 rfl rfl (at_ownL (vs := [Value.map none, .int .i64 0]) (.head _) rfl)) ?_
        refine x_val (v := Value.int .i64 0) rfl rfl rfl (v_len_mapnil Tryz.underlying81 rfl) ?_
        refine x_bool rfl rfl rfl (v_geq rfl rfl) ?_
        intro b50 hb50
        refine x_val rfl rfl rfl (v_move rfl) ?_
        refine x_if [] rfl rfl rfl rfl rfl (fun hg => by obtain ⟨hg0, _⟩ := hg; subst hg0; (try simp only [List.cons_append, List.nil_append, gvl_nil, gvl_t, gvl_f]); exact v_move rfl) ?_
        refine x_if [] rfl rfl rfl rfl rfl (fun hg => by obtain ⟨hg0, _⟩ := hg; subst hg0; (try simp only [List.cons_append, List.nil_append, gvl_nil, gvl_t, gvl_f]); exact v_move rfl) ?_
        refine x_if [] rfl rfl rfl rfl rfl (fun hg => by obtain ⟨hg0, _⟩ := hg; subst hg0; (try simp only [List.cons_append, List.nil_append, gvl_nil, gvl_t, gvl_f]); exact v_nilCheck rfl) ?_
        refine x_if [] rfl rfl rfl rfl rfl (fun hg => by obtain ⟨hg0, _⟩ := hg; subst hg0; (try simp only [List.cons_append, List.nil_append, gvl_nil, gvl_t, gvl_f]); exact v_fieldAddr (off' := 1) Tryz.underlying83 rfl sz3 (by decide) rfl rfl) ?_
        refine x_if [] rfl rfl rfl rfl rfl (fun hg => by obtain ⟨hg0, _⟩ := hg; subst hg0; (try simp only [List.cons_append, List.nil_append, gvl_nil, gvl_t, gvl_f]); exact v_load Tryz.underlying3 rfl rfl (at_ownL (vs := [Value.map none, .int .i64 0]) (.head _) rfl)) ?_
        refine x_if [] rfl rfl rfl rfl rfl (fun hg => by obtain ⟨hg0, _⟩ := hg; subst hg0; (try simp only [List.cons_append, List.nil_append, gvl_nil, gvl_t, gvl_f]); exact v_subi rfl rfl rfl (by first | omega | (dsimp only; omega))) ?_
        refine x_ifb [] rfl rfl rfl rfl rfl (fun hg => by obtain ⟨hg0, _⟩ := hg; subst hg0; (try simp only [List.cons_append, List.nil_append, gvl_nil, gvl_t, gvl_f]); exact v_gtr rfl rfl) ?_
        intro b58 hb58
        refine x_bool rfl rfl rfl (v_or rfl rfl) ?_
        intro b59 hb59
        refine x_val rfl rfl rfl (v_assign rfl) ?_
        refine x_end ?_
        refine t_norm ?_
        refine w_cond rfl (fun hc44 => ?_) (fun hc44 => ?_)
        · exfalso
          rw [hb59, hb58, hb50] at hc44
          revert hc44; simp; omega
        · simp only [hb59, hb58, hb50, decide_eq_true_eq, decide_eq_false_iff_not, Bool.and_eq_true, Bool.or_eq_true, Bool.and_eq_false_iff, Bool.or_eq_false_iff, Bool.not_eq_true', Bool.not_eq_false', ne_eq, Decidable.not_not] at hc44
          refine w_skip ?_
          refine b_norm ?_
          refine t_norm ?_
          refine w_seq ?_
          refine rg_text ?_
          refine x_val rfl rfl rfl (v_move rfl) ?_
          refine x_val rfl rfl rfl (v_move rfl) ?_
          refine x_val rfl rfl rfl (v_move rfl) ?_
          refine x_val rfl rfl rfl (v_move rfl) ?_
          refine x_val (v := Value.agg #[.int .i64 2, .int .i64 0, .int .i64 al, .int .i64 0, .int .i64 0]) rfl rfl rfl (v_buildL (cs := [.int .i64 2, .int .i64 0, .int .i64 al, .int .i64 0, .int .i64 0]) (places := [(0, 1), (1, 1), (2, 1), (3, 1), (4, 1)]) Tryz.underlying67 zr67 (by kernel_rfl) rfl rfl) ?_
          refine x_turn_n (fun (x : Nat × Nat × Array MapEntry × Nat) v _ _ => v = .pointer (some ⟨x.1, 0, none⟩) ∧ MapF Tryz.prog 3 x.2.2.1 (fF x.1)) (fun x => (x.1, Obj.cells (fxC ⟨al, 0, 0⟩).toArray 88) :: (x.2.1, Obj.map x.2.2.1 x.2.2.2) :: (pF, Obj.cells (fnC x.2.1 al).toArray 83) :: L) rfl rfl Tryz.func39 (by kernel_rfl) rfl (fun w1 hw1 => (c_Fput al hw1 hal).mono fun e w2 ⟨v, h1, x, h2, h3⟩ => ⟨v, h1, x, h2, h3⟩) ?_
          rintro _ ⟨pX, mF, esF, ckF⟩ wa wb _ ⟨rfl, hmf⟩ _
          refine x_val rfl rfl rfl (v_assign rfl) ?_
          refine x_end ?_
          refine t_norm ?_
          refine w_seq ?_
          refine w_seq ?_
          refine rg_text ?_
          refine x_val rfl rfl rfl (v_move rfl) ?_
          refine x_val (v := Value.bool false) rfl rfl rfl (v_nep (p := none) Tryz.underlying84 rfl rfl) ?_
          refine x_end ?_
          refine t_norm ?_
          refine w_cond rfl (fun hc67 => ?_) (fun hc67 => ?_)
          · cases hc67
          · skip
            refine w_skip ?_
            refine t_norm ?_
            refine w_seq ?_
            refine rg_text ?_
            refine x_val rfl rfl rfl (v_assign rfl) ?_
            refine x_end ?_
            refine t_norm ?_
            refine w_ret ?_
            exact ret1 rfl rfl (fun w' hm' => ⟨rfl, (pX, mF, esF, ckF), hmf, hm'.less (.refl _) (fun q hq => .tail _ hq)⟩)
set_option maxRecDepth 100000 in
theorem c_Oput {w : World} {l1 L : List (Nat × Obj)} {ro : List Snap} {pO mO pF ck : Nat} {es : Array MapEntry} {tol : Int} {x : Option (PK.Ord × Int)} (y : PK.Ord) (first : Int) (hm : Mem w (l1 ++ (pO, Obj.cells (orC pF tol mO).toArray 58) :: (mO, Obj.map es ck) :: L) ro) (hO : MapF Tryz.prog 3 es (fO x)) (hy : y.id = 7) :
    Calls Tryz.prog 27 #[.pointer (some ⟨pO, 0, none⟩), .agg (orC10 y first).toArray] w fun e w' => e = .returned (.tuple #[]) ∧ ∃ q : Array MapEntry × Nat, MapF Tryz.prog 3 q.1 (fO (some (y, first))) ∧ Mem w' (l1 ++ (pO, Obj.cells (orC pF tol mO).toArray 58) :: (mO, Obj.map q.1 q.2) :: L) ro := by
  refine enter_in hm (vs := [.pointer (some ⟨pO, 0, none⟩), .agg (orC10 y first).toArray]) Tryz.func27 rfl Tryz.ntmps27 rfl ?_
  refine w_seq ?_
  refine rg_text ?_
  refine x_box rfl rfl rfl rfl ?_
  intro p3
  refine x_end ?_
  refine t_norm ?_
  refine w_seq ?_
  refine w_seq ?_
  refine rg_text ?_
  refine x_val rfl rfl rfl (v_move rfl) ?_
  refine x_val rfl rfl rfl (v_nilCheck rfl) ?_
  refine x_val rfl rfl rfl (v_fieldAddr (off' := 2) Tryz.underlying58 rfl sz56 (by decide) rfl rfl) ?_
  refine x_val rfl rfl rfl (v_load Tryz.underlying56 rfl rfl (at_ownL (vs := orC pF tol mO) (.tail _ (List.mem_append_right _ (.head _))) rfl)) ?_
  refine x_val (v := Value.bool false) rfl rfl rfl (v_eqm (p := some mO) Tryz.underlying56 rfl rfl) ?_
  refine x_end ?_
  refine t_norm ?_
  refine w_cond rfl (fun hc8 => ?_) (fun hc8 => ?_)
  · cases hc8
  · skip
    refine w_skip ?_
    refine t_norm ?_
    refine rg_draw 8 [(true, 0), (true, 1), (true, 2), (true, 3), (true, 4), (true, 5), (true, 6), (true, 7)] (by kernel_rfl) (by kernel_rfl) ?_
    refine x_val rfl rfl rfl (v_move rfl) ?_
    refine x_val rfl rfl rfl (v_nilCheck rfl) ?_
    refine x_val rfl rfl rfl (v_fieldAddr (off' := 2) Tryz.underlying58 rfl sz56 (by decide) rfl rfl) ?_
    refine x_val rfl rfl rfl (v_load Tryz.underlying56 rfl rfl (at_ownL (vs := orC pF tol mO) (.tail _ (List.mem_append_right _ (.head _))) rfl)) ?_
    refine x_val rfl rfl rfl (v_fieldAddr (off' := 0) Tryz.underlying54 rfl sz35 (by decide) rfl rfl) ?_
    refine x_val rfl rfl rfl (v_fieldAddr (off' := 0) Tryz.underlying35 rfl sz3 (by decide) rfl rfl) ?_
    refine x_val (v := Value.int .i64 7) rfl rfl rfl (v_load Tryz.underlying3 rfl rfl (at_ownL (vs := (orC10 y first)) (.head _) (by show some (Value.int .i64 y.id) = _; rw [hy]))) ?_
    refine x_val rfl rfl rfl (v_load_blk (e := 54) (fz := (0, 0)) (cs := (orC10 y first).toArray) Tryz.underlying54 rfl rfl (.head _) sz54) ?_
    refine x_mapUpdate ((p3, Obj.cells (orC10 y first).toArray 54) :: (l1 ++ [(pO, Obj.cells (orC pF tol mO).toArray 58)])) (l2 := L) (es := es) (clock := ck) rfl rfl rfl rfl Tryz.underlying56 (Maps.int_keyed Tryz.underlying3) (Maps.keyOf_int_mk Tryz.underlying3 (by decide)) (by simp [List.append_assoc] <;> rfl) hO ?_
    intro es16 clock16 hmf16
    refine x_end ?_
    refine ret0 rfl (fun w' hm' => ⟨rfl, (es16, clock16), ?_, ?_⟩)
    · have h := hmf16
      have e : fupd (fO x) (.int .i64 7) (Value.agg (orC10 y first).toArray) = fO (some (y, first)) := fO_put (y := (y, first))
      rw [e] at h; exact h
    · exact (hm'.less (List.sublist_cons_self _ _) (fun _ h => h)).to (by simp)

end Go.Proofs.YtdampedpgbnihaaGreatDoor

namespace Go.Proofs.YtdampedpgbnihaaGreatDoor
open Go.RowKit Go.PK
set_option linter.unusedVariables false
set_option linter.unusedSimpArgs false
set_option maxRecDepth 100000 in
theorem c_read1 (s : ByteArray) (w : World) (hs : s.size ≤ 200000000) (h0 : (parR s).2.2 = 0) (hbig : bigO (parR s).1) (hL : LD w) :
    Calls Tryz.prog 21 #[.string s, .func (.func 22) #[] #[]] w fun e w' => e = .returned (.tuple #[.agg (rdO (parR s).1).1.cells.toArray, .int .i64 (rdO (parR s).1).2]) ∧ Later w w' := by
  refine enter (vs := [.string s, .func (.func 22) #[] #[]]) Tryz.func21 rfl Tryz.ntmps21 rfl ?_
  refine w_seq ?_
  refine rg_text ?_
  refine x_alloc rfl rfl rfl zr35 ?_
  intro p4
  refine x_val rfl rfl rfl (v_assign rfl) ?_
  refine x_end ?_
  refine t_norm ?_
  refine w_seq ?_
  refine rg_text ?_
  refine x_val rfl rfl rfl (v_move rfl) ?_
  refine x_call (R := fun v wa wb => ∃ A c, v = .tuple #[.slice A (parR s).1.length c, .int .i64 (parR s).2.1, .int .i64 (parR s).2.2] ∧ sliceRd tySeg (fun b => wa.heap.size ≤ b) wb (.slice A (parR s).1.length c) (parR s).1) rfl rfl rfl Tryz.func40 (by kernel_rfl) rfl (fun w1 hw1 => (c_Parse s w1 hs).mono fun e w2 ⟨v, h1, h2, h3⟩ => by obtain ⟨A, c, rfl, _⟩ := id h3; exact ⟨_, h1, h2, A, c, rfl, h3⟩) ?_
  intro v12 wa12 wb12 hm12 hl12 hR12
  obtain ⟨A12, c12, rfl, hp12⟩ := hR12
  refine x_val rfl rfl rfl (v_move rfl) ?_
  refine x_val rfl rfl rfl (v_extract rfl rfl) ?_
  refine x_val rfl rfl rfl (v_extract rfl rfl) ?_
  refine x_val rfl rfl rfl (v_extract rfl rfl) ?_
  refine x_val rfl rfl rfl (v_assign rfl) ?_
  refine x_val rfl rfl rfl (v_assign rfl) ?_
  refine x_val rfl rfl rfl (v_assign rfl) ?_
  refine x_end ?_
  refine t_norm ?_
  refine w_seq ?_
  refine w_seq ?_
  refine rg_text ?_
  refine x_val rfl rfl rfl (v_move rfl) ?_
  refine x_bool rfl rfl rfl (v_neq rfl rfl) ?_
  intro b17 hb17
  refine x_end ?_
  refine t_norm ?_
  refine w_cond rfl (fun hc17 => ?_) (fun hc17 => ?_)
  · exfalso
    rw [hb17, h0] at hc17
    revert hc17; simp
  · simp only [hb17, decide_eq_true_eq, decide_eq_false_iff_not, Bool.and_eq_true, Bool.or_eq_true, Bool.and_eq_false_iff, Bool.or_eq_false_iff, Bool.not_eq_true', Bool.not_eq_false', ne_eq, Decidable.not_not] at hc17
    refine w_skip ?_
    refine t_norm ?_
    refine w_seq ?_
    refine rg_text ?_
    refine x_val rfl rfl rfl (v_move rfl) ?_
    refine x_val rfl rfl rfl (v_move rfl) ?_
    refine x_clv (cap := #[]) rfl rfl rfl rfl Tryz.func22 (by kernel_rfl) rfl (fun w1 hw1 => by simpa using c_ReadOrder (l := (parR s).1) w1 (keep_new hp12 hw1 (by repeat (first | exact List.Mem.head _ | apply List.Mem.tail)) hm12) hbig (hL.later (hw1.base (by simp)))) ?_
    refine x_val rfl rfl rfl (v_extract rfl rfl) ?_
    refine x_val rfl rfl rfl (v_extract rfl rfl) ?_
    refine x_store0 [] rfl rfl rfl rfl sz35 rfl rfl ?_
    refine x_val rfl rfl rfl (v_assign rfl) ?_
    refine x_end ?_
    refine t_norm ?_
    refine w_ret ?_
    refine retct (cs := (rdO (parR s).1).1.cells.toArray) rfl rfl rfl (.head _) Tryz.underlying35 rfl sz35 (fun w1 hm => ⟨rfl, hm.base (by simp)⟩)
set_option maxRecDepth 100000 in
theorem c_read2 (s : ByteArray) (w : World) (hs : s.size ≤ 200000000) (h0 : (parR s).2.2 = 0) (hbig : bigO (parR s).1) (hL : LD w) :
    Calls Tryz.prog 31 #[.string s, .func (.func 32) #[] #[]] w fun e w' => ∃ q, e = .returned (.tuple #[q, .int .i64 (rdI (parR s).1).2]) ∧ Later w w' ∧ sliceRd tyOrd (fun b => w.heap.size ≤ b) w' q (rdI (parR s).1).1 := by
  refine enter (vs := [.string s, .func (.func 32) #[] #[]]) Tryz.func31 rfl Tryz.ntmps31 rfl ?_
  refine w_seq ?_
  refine rg_text ?_
  refine x_val rfl rfl rfl (v_assign rfl) ?_
  refine x_val rfl rfl rfl (v_assign rfl) ?_
  refine x_end ?_
  refine t_norm ?_
  refine w_seq ?_
  refine rg_text ?_
  refine x_val rfl rfl rfl (v_move rfl) ?_
  refine x_call (R := fun v wa wb => ∃ A c, v = .tuple #[.slice A (parR s).1.length c, .int .i64 (parR s).2.1, .int .i64 (parR s).2.2] ∧ sliceRd tySeg (fun b => wa.heap.size ≤ b) wb (.slice A (parR s).1.length c) (parR s).1) rfl rfl rfl Tryz.func40 (by kernel_rfl) rfl (fun w1 hw1 => (c_Parse s w1 hs).mono fun e w2 ⟨v, h1, h2, h3⟩ => by obtain ⟨A, c, rfl, _⟩ := id h3; exact ⟨_, h1, h2, A, c, rfl, h3⟩) ?_
  intro v12 wa12 wb12 hm12 hl12 hR12
  obtain ⟨A12, c12, rfl, hp12⟩ := hR12
  refine x_val rfl rfl rfl (v_move rfl) ?_
  refine x_val rfl rfl rfl (v_extract rfl rfl) ?_
  refine x_val rfl rfl rfl (v_extract rfl rfl) ?_
  refine x_val rfl rfl rfl (v_extract rfl rfl) ?_
  refine x_val rfl rfl rfl (v_assign rfl) ?_
  refine x_val rfl rfl rfl (v_assign rfl) ?_
  refine x_val rfl rfl rfl (v_assign rfl) ?_
  refine x_end ?_
  refine t_norm ?_
  refine w_seq ?_
  refine w_seq ?_
  refine rg_text ?_
  refine x_val rfl rfl rfl (v_move rfl) ?_
  refine x_bool rfl rfl rfl (v_neq rfl rfl) ?_
  intro b17 hb17
  refine x_end ?_
  refine t_norm ?_
  refine w_cond rfl (fun hc17 => ?_) (fun hc17 => ?_)
  · exfalso
    rw [hb17, h0] at hc17
    revert hc17; simp
  · simp only [hb17, decide_eq_true_eq, decide_eq_false_iff_not, Bool.and_eq_true, Bool.or_eq_true, Bool.and_eq_false_iff, Bool.or_eq_false_iff, Bool.not_eq_true', Bool.not_eq_false', ne_eq, Decidable.not_not] at hc17
    refine w_skip ?_
    refine t_norm ?_
    refine w_seq ?_
    refine rg_text ?_
    refine x_val rfl rfl rfl (v_move rfl) ?_
    refine x_val rfl rfl rfl (v_move rfl) ?_
    refine x_cln (R := fun v wa wb => ∃ q, v = .tuple #[q, .int .i64 (rdI (parR s).1).2] ∧ sliceRd tyOrd (fun b => wa.heap.size ≤ b) wb q (rdI (parR s).1).1) rfl rfl rfl rfl Tryz.func32 (by kernel_rfl) rfl (fun w1 hw1 => (c_ReadInvoice (l := (parR s).1) w1 (keep_new hp12 hw1 (by repeat (first | exact List.Mem.head _ | apply List.Mem.tail)) hm12) hbig (hL.later (hw1.base (by simp)))).mono fun e w2 ⟨q, h1, h2, h3⟩ => ⟨_, h1, h2, q, rfl, h3⟩) ?_
    rintro _ wa22 wb22 hm22 _ ⟨q22, rfl, hr22⟩
    refine x_val rfl rfl rfl (v_extract rfl rfl) ?_
    refine x_val rfl rfl rfl (v_extract rfl rfl) ?_
    refine x_val rfl rfl rfl (v_assign rfl) ?_
    refine x_val rfl rfl rfl (v_assign rfl) ?_
    refine x_end ?_
    refine t_norm ?_
    refine w_ret ?_
    exact ret2 rfl rfl rfl (fun w' hm => ⟨_, rfl, hm.base (by simp), hr22.keep (Kept.made0 hm hm22 (by simp) (by simp))⟩)
theorem eqRec (w : World) (a b a' b' : Int) : (Op.equalIn 10000 33 (.agg #[.int .i64 a, .int .i64 b]) (.agg #[.int .i64 a', .int .i64 b'])).run Tryz.prog w = .ok (decide (a = a' ∧ b = b')) w := by
  have hf : (Tryz.prog.fieldsOf 33).toList = [⟨ "Source", 3, 0, false, "", "", 0⟩, ⟨ "Number", 3, 1, false, "", "", 8⟩] := by kernel_rfl
  rw [run_equalIn_struct w 9999 33 _ _ (by kernel_rfl) (by kernel_rfl), hf]
  simp only [Op.eqFields, part]
  simp [run_isAgg Tryz.underlying3, PK.run_sizeOf sz3, aggT, run_equalIn_int w 9998 3 .i64 .i64 _ _ Tryz.underlying3]
  by_cases h1 : a = a' <;> by_cases h2 : b = b' <;> simp [h1, h2]
set_option maxRecDepth 100000 in
theorem c_check {pO : Nat} {tol : Int} (ln x : PK.Ord) (first : Int) (w : World) (h1 : w.cell? ⟨pO, 1, none⟩ = some (.int .i64 tol)) (ht : 0 ≤ tol ∧ tol ≤ 1000000) (hl : 0 ≤ ln.price ∧ ln.price ≤ 999999999) (hx : ordR x) :
    Calls Tryz.prog 34 #[.pointer (some ⟨pO, 0, none⟩), .agg ln.cells.toArray, .agg (orC10 x first).toArray, .bool true] w fun e w' => e = .returned (.int .i64 (checkP tol ln (some (x, first)))) ∧ Later w w' := by
  obtain ⟨⟨o1, o2⟩, ⟨o3, o4⟩, ⟨o5, o6⟩, ⟨o7, o8⟩, ⟨o9, o10⟩, o11, o12, o13, o14⟩ := id hx
  obtain ⟨hl1, hl2⟩ := hl
  refine enter (vs := [.pointer (some ⟨pO, 0, none⟩), .agg ln.cells.toArray, .agg (orC10 x first).toArray, .bool true]) Tryz.func34 rfl Tryz.ntmps34 rfl ?_
  refine w_seq ?_
  refine rg_text ?_
  refine x_box rfl rfl rfl rfl ?_
  intro p5
  refine x_box rfl rfl rfl rfl ?_
  intro p6
  refine x_val rfl rfl rfl (v_assign rfl) ?_
  refine x_end ?_
  refine t_norm ?_
  refine w_seq ?_
  refine w_block ?_
  refine w_seq ?_
  refine rg_text ?_
  refine x_val rfl rfl rfl (v_move rfl) ?_
  refine x_bool rfl rfl rfl (v_not rfl) ?_
  intro b11 hb11
  refine x_val rfl rfl rfl (v_assign rfl) ?_
  refine x_end ?_
  refine t_norm ?_
  refine w_cond rfl (fun hc9 => ?_) (fun hc9 => ?_)
  · exfalso
    rw [hb11] at hc9
    revert hc9; simp
  · simp only [hb11, decide_eq_true_eq, decide_eq_false_iff_not, Bool.and_eq_true, Bool.or_eq_true, Bool.and_eq_false_iff, Bool.or_eq_false_iff, Bool.not_eq_true', Bool.not_eq_false', ne_eq, Decidable.not_not] at hc9
    refine w_seq ?_
    refine rg_text ?_
    refine x_val rfl rfl rfl (v_fieldAddr (off' := 0) Tryz.underlying54 rfl sz35 (by decide) rfl rfl) ?_
    refine x_val rfl rfl rfl (v_fieldAddr (off' := 8) Tryz.underlying35 rfl sz3 (by decide) rfl rfl) ?_
    refine x_val rfl rfl rfl (v_load Tryz.underlying3 rfl rfl (at_ownL (vs := orC10 x first) (.head _) rfl)) ?_
    refine x_bool rfl rfl rfl (v_eql rfl rfl) ?_
    intro b16 hb16
    refine x_val rfl rfl rfl (v_assign rfl) ?_
    refine x_end ?_
    refine t_norm ?_
    refine w_cond rfl (fun hc12 => ?_) (fun hc12 => ?_)
    · simp only [hb16, decide_eq_true_eq, decide_eq_false_iff_not, Bool.and_eq_true, Bool.or_eq_true, Bool.and_eq_false_iff, Bool.or_eq_false_iff, Bool.not_eq_true', Bool.not_eq_false', ne_eq, Decidable.not_not] at hc12
      refine w_seq ?_
      refine rg_text ?_
      refine x_val rfl rfl rfl (v_assign rfl) ?_
      refine x_end ?_
      refine t_norm ?_
      refine w_ret ?_
      refine b_ret ?_
      refine t_ret ?_
      refine ret1 rfl rfl (fun w' hm => ⟨?_, hm.base (by simp)⟩)
      unfold checkP; dsimp only; rw [if_pos (by simpa using hc12)]
    · simp only [hb16, decide_eq_true_eq, decide_eq_false_iff_not, Bool.and_eq_true, Bool.or_eq_true, Bool.and_eq_false_iff, Bool.or_eq_false_iff, Bool.not_eq_true', Bool.not_eq_false', ne_eq, Decidable.not_not] at hc12
      refine w_seq ?_
      refine rg_text ?_
      refine x_val rfl rfl rfl (v_fieldAddr (off' := 0) Tryz.underlying54 rfl sz35 (by decide) rfl rfl) ?_
      refine x_val rfl rfl rfl (v_fieldAddr (off' := 2) Tryz.underlying35 rfl sz33 (by decide) rfl rfl) ?_
      refine x_val rfl rfl rfl (v_loadN (vs := [Value.int .i64 x.src, .int .i64 x.num]) Tryz.underlying33 rfl sz33 rfl (fun j hj => at_ownL (vs := orC10 x first) (.head _) (by match j, hj with | 0, _ => rfl | 1, _ => rfl))) ?_
      refine x_val rfl rfl rfl (v_fieldAddr (off' := 2) Tryz.underlying35 rfl sz33 (by decide) rfl rfl) ?_
      refine x_val rfl rfl rfl (v_loadN (vs := [Value.int .i64 ln.src, .int .i64 ln.num]) Tryz.underlying33 rfl sz33 rfl (fun j hj => at_ownL (vs := ln.cells) (.tail _ (.head _)) (by match j, hj with | 0, _ => rfl | 1, _ => rfl))) ?_
      refine x_bool rfl rfl rfl (v_neA (by kernel_rfl) rfl rfl (fun w1 => eqRec w1 x.src x.num ln.src ln.num)) ?_
      intro b23 hb23
      refine x_val rfl rfl rfl (v_assign rfl) ?_
      refine x_end ?_
      refine t_norm ?_
      refine w_cond rfl (fun hc17 => ?_) (fun hc17 => ?_)
      · simp only [hb23, decide_eq_true_eq, decide_eq_false_iff_not, Bool.and_eq_true, Bool.or_eq_true, Bool.and_eq_false_iff, Bool.or_eq_false_iff, Bool.not_eq_true', Bool.not_eq_false', ne_eq, Decidable.not_not] at hc17
        refine w_seq ?_
        refine rg_text ?_
        refine x_val rfl rfl rfl (v_assign rfl) ?_
        refine x_end ?_
        refine t_norm ?_
        refine w_ret ?_
        refine b_ret ?_
        refine t_ret ?_
        refine ret1 rfl rfl (fun w' hm => ⟨?_, hm.base (by simp)⟩)
        unfold checkP; dsimp only; rw [if_neg (by simpa using hc12), if_pos (by simpa using hc17)]
      · simp only [hb23, decide_eq_true_eq, decide_eq_false_iff_not, Bool.and_eq_true, Bool.or_eq_true, Bool.and_eq_false_iff, Bool.or_eq_false_iff, Bool.not_eq_true', Bool.not_eq_false', ne_eq, Decidable.not_not] at hc17
        refine w_seq ?_
        refine rg_text ?_
        refine x_val rfl rfl rfl (v_fieldAddr (off' := 4) Tryz.underlying35 rfl sz3 (by decide) rfl rfl) ?_
        refine x_val rfl rfl rfl (v_load Tryz.underlying3 rfl rfl (at_ownL (vs := ln.cells) (.tail _ (.head _)) rfl)) ?_
        refine x_val rfl rfl rfl (v_fieldAddr (off' := 0) Tryz.underlying54 rfl sz35 (by decide) rfl rfl) ?_
        refine x_val rfl rfl rfl (v_fieldAddr (off' := 8) Tryz.underlying35 rfl sz3 (by decide) rfl rfl) ?_
        refine x_val rfl rfl rfl (v_load Tryz.underlying3 rfl rfl (at_ownL (vs := orC10 x first) (.head _) rfl)) ?_
        refine x_val rfl rfl rfl (v_fieldAddr (off' := 0) Tryz.underlying54 rfl sz35 (by decide) rfl rfl) ?_
        refine x_val rfl rfl rfl (v_fieldAddr (off' := 7) Tryz.underlying35 rfl sz3 (by decide) rfl rfl) ?_
        refine x_val rfl rfl rfl (v_load Tryz.underlying3 rfl rfl (at_ownL (vs := orC10 x first) (.head _) rfl)) ?_
        refine x_val rfl rfl rfl (v_subi rfl rfl rfl (by first | omega | (dsimp only; omega))) ?_
        refine x_bool rfl rfl rfl (v_gtr rfl rfl) ?_
        intro b34 hb34
        refine x_val rfl rfl rfl (v_assign rfl) ?_
        refine x_end ?_
        refine t_norm ?_
        refine w_cond rfl (fun hc24 => ?_) (fun hc24 => ?_)
        · simp only [hb34, decide_eq_true_eq, decide_eq_false_iff_not, Bool.and_eq_true, Bool.or_eq_true, Bool.and_eq_false_iff, Bool.or_eq_false_iff, Bool.not_eq_true', Bool.not_eq_false', ne_eq, Decidable.not_not] at hc24
          refine w_seq ?_
          refine rg_text ?_
          refine x_val rfl rfl rfl (v_assign rfl) ?_
          refine x_end ?_
          refine t_norm ?_
          refine w_ret ?_
          refine b_ret ?_
          refine t_ret ?_
          refine ret1 rfl rfl (fun w' hm => ⟨?_, hm.base (by simp)⟩)
          unfold checkP; dsimp only; rw [if_neg (by simpa using hc12), if_neg (by simpa using hc17), if_pos (by simpa using hc24)]
        · simp only [hb34, decide_eq_true_eq, decide_eq_false_iff_not, Bool.and_eq_true, Bool.or_eq_true, Bool.and_eq_false_iff, Bool.or_eq_false_iff, Bool.not_eq_true', Bool.not_eq_false', ne_eq, Decidable.not_not] at hc24
          refine w_seq ?_
          refine rg_text ?_
          refine x_val rfl rfl rfl (v_move rfl) ?_
          refine x_val rfl rfl rfl (v_fieldAddr (off' := 5) Tryz.underlying35 rfl sz3 (by decide) rfl rfl) ?_
          refine x_val rfl rfl rfl (v_load Tryz.underlying3 rfl rfl (at_ownL (vs := ln.cells) (.tail _ (.head _)) rfl)) ?_
          refine x_val rfl rfl rfl (v_fieldAddr (off' := 0) Tryz.underlying54 rfl sz35 (by decide) rfl rfl) ?_
          refine x_val rfl rfl rfl (v_fieldAddr (off' := 5) Tryz.underlying35 rfl sz3 (by decide) rfl rfl) ?_
          refine x_val rfl rfl rfl (v_load Tryz.underlying3 rfl rfl (at_ownL (vs := orC10 x first) (.head _) rfl)) ?_
          refine x_callb rfl rfl rfl Tryz.func23 (by kernel_rfl) rfl (fun w1 hw1 => c_near (tol := tol) ln.price x.price w1 (at_ro (.head _) trivial h1 w1 hw1) ht ⟨hl1, hl2⟩ ⟨o1, o2⟩) ?_
          intro b42 hb42
          refine x_bool rfl rfl rfl (v_not rfl) ?_
          intro b43 hb43
          refine x_val rfl rfl rfl (v_assign rfl) ?_
          refine x_end ?_
          refine t_norm ?_
          refine w_cond rfl (fun hc35 => ?_) (fun hc35 => ?_)
          · simp only [hb43, hb42, decide_eq_true_eq, decide_eq_false_iff_not, Bool.and_eq_true, Bool.or_eq_true, Bool.and_eq_false_iff, Bool.or_eq_false_iff, Bool.not_eq_true', Bool.not_eq_false', ne_eq, Decidable.not_not] at hc35
            refine w_seq ?_
            refine rg_text ?_
            refine x_val rfl rfl rfl (v_assign rfl) ?_
            refine x_end ?_
            refine t_norm ?_
            refine w_ret ?_
            refine b_ret ?_
            refine t_ret ?_
            refine ret1 rfl rfl (fun w' hm => ⟨?_, hm.base (by simp)⟩)
            unfold checkP; dsimp only; rw [if_neg (by simpa using hc12), if_neg (by simpa using hc17), if_neg (by simpa using hc24), if_pos (by simpa using hc35)]
          · simp only [hb43, hb42, decide_eq_true_eq, decide_eq_false_iff_not, Bool.and_eq_true, Bool.or_eq_true, Bool.and_eq_false_iff, Bool.or_eq_false_iff, Bool.not_eq_true', Bool.not_eq_false', ne_eq, Decidable.not_not] at hc35
            refine w_skip ?_
            refine b_norm ?_
            refine t_norm ?_
            refine w_seq ?_
            refine rg_text ?_
            refine x_val rfl rfl rfl (v_assign rfl) ?_
            refine x_end ?_
            refine t_norm ?_
            refine w_ret ?_
            refine ret1 rfl rfl (fun w' hm => ⟨?_, hm.base (by simp)⟩)
            unfold checkP; dsimp only; rw [if_neg (by simpa using hc12), if_neg (by simpa using hc17), if_neg (by simpa using hc24), if_neg (by simpa using hc35)]

end Go.Proofs.YtdampedpgbnihaaGreatDoor

namespace Go.Proofs.YtdampedpgbnihaaGreatDoor
open Go.RowKit Go.PK
set_option linter.unusedVariables false
set_option linter.unusedSimpArgs false
set_option maxRecDepth 100000 in
theorem c_Receive {w : World} {L : List (Nat × Obj)} {ro : List Snap} {pX mF pF pO mO ckF ckO : Nat} {esF esO : Array MapEntry} {money tol first : Int} {f : FSt} {x : PK.Ord} (hm : Mem w ((pO, Obj.cells (orC pF tol mO).toArray 58) :: (mO, Obj.map esO ckO) :: (pX, Obj.cells (fxC f).toArray 88) :: (mF, Obj.map esF ckF) :: (pF, Obj.cells (fnC mF money).toArray 83) :: L) ro) (hF : MapF Tryz.prog 3 esF (fF pX)) (hO : MapF Tryz.prog 3 esO (fO (some (x, first)))) (hok : fundOK f) (htol : 0 ≤ tol ∧ tol ≤ 1000000) (hx : ordR x) (hfi : 0 ≤ first ∧ first ≤ 999999999) (n : Int) (hn : 0 ≤ n ∧ n ≤ 1000000) :
    Calls Tryz.prog 13 #[.pointer (some ⟨pO, 0, none⟩), .int .i64 7, .int .i64 n] w fun e w' => e = .returned (.int .i64 (receiveP ⟨f, tol, some (x, first)⟩ 7 n).1) ∧ ∃ q : Array MapEntry × Nat, MapF Tryz.prog 3 q.1 (fO ((receiveP ⟨f, tol, some (x, first)⟩ 7 n).2.x)) ∧ Mem w' ((pO, Obj.cells (orC pF tol mO).toArray 58) :: (mO, Obj.map q.1 q.2) :: (pX, Obj.cells (fxC (receiveP ⟨f, tol, some (x, first)⟩ 7 n).2.f).toArray 88) :: (mF, Obj.map esF ckF) :: (pF, Obj.cells (fnC mF money).toArray 83) :: L) ro := by
  obtain ⟨⟨o1, o2⟩, ⟨o3, o4⟩, ⟨o5, o6⟩, ⟨o7, o8⟩, ⟨o9, o10⟩, o11, o12, o13, o14⟩ := id hx
  refine enter_in hm (vs := [.pointer (some ⟨pO, 0, none⟩), .int .i64 7, .int .i64 n]) Tryz.func13 rfl Tryz.ntmps13 rfl ?_
  refine w_seq ?_
  refine rg_text ?_
  refine x_val rfl rfl rfl (v_assign rfl) ?_
  refine x_end ?_
  refine t_norm ?_
  refine w_seq ?_
  refine w_seq ?_
  refine rg_text ?_
  refine x_val rfl rfl rfl (v_move rfl) ?_
  refine x_val (v := Value.bool false) rfl rfl rfl (v_pnil (o := some ⟨pO, 0, none⟩) Tryz.underlying25 rfl rfl) ?_
  refine x_end ?_
  refine t_norm ?_
  refine w_cond rfl (fun hc10 => ?_) (fun hc10 => ?_)
  · cases hc10
  · skip
    refine w_skip ?_
    refine t_norm ?_
    refine w_seq ?_
    refine rg_text ?_
    refine x_val rfl rfl rfl (v_move rfl) ?_
    refine x_val rfl rfl rfl (v_nilCheck rfl) ?_
    refine x_val rfl rfl rfl (v_fieldAddr (off' := 2) Tryz.underlying58 rfl sz56 (by decide) rfl rfl) ?_
    refine x_val rfl rfl rfl (v_load Tryz.underlying56 rfl rfl (at_ownL (vs := orC pF tol mO) (.head _) rfl)) ?_
    refine x_val rfl rfl rfl (v_move rfl) ?_
    refine x_val (v := Value.tuple #[orV x first, .bool true]) rfl rfl rfl (v_lookup2H Tryz.underlying56 (Maps.int_keyed Tryz.underlying3) zr54 rfl rfl (Maps.keyOf_int_mk Tryz.underlying3 (by decide)) (map_own (.tail _ (.head _))) hO (by rw [fO_at]; rfl) (by rw [fO_at]; rfl)) ?_
    refine x_val rfl rfl rfl (v_move rfl) ?_
    refine x_val rfl rfl rfl (v_extract rfl rfl) ?_
    refine x_bool rfl rfl rfl (v_extract rfl rfl) ?_
    intro b19 hb19
    refine x_alloc rfl rfl rfl zr54 ?_
    intro p7
    refine x_store0 [] rfl rfl rfl rfl sz54 rfl rfl ?_
    refine x_val rfl rfl rfl (v_assign rfl) ?_
    refine x_end ?_
    refine t_norm ?_
    refine w_seq ?_
    refine w_block ?_
    refine w_seq ?_
    refine rg_text ?_
    refine x_val rfl rfl rfl (v_move rfl) ?_
    refine x_bool rfl rfl rfl (v_not rfl) ?_
    intro b22 hb22
    refine x_val rfl rfl rfl (v_assign rfl) ?_
    refine x_end ?_
    refine t_norm ?_
    refine w_cond rfl (fun hc20 => ?_) (fun hc20 => ?_)
    · exfalso
      rw [hb22, hb19] at hc20
      revert hc20; simp
    · simp only [hb22, hb19, decide_eq_true_eq, decide_eq_false_iff_not, Bool.and_eq_true, Bool.or_eq_true, Bool.and_eq_false_iff, Bool.or_eq_false_iff, Bool.not_eq_true', Bool.not_eq_false', ne_eq, Decidable.not_not] at hc20
      refine w_seq ?_
      refine rg_text ?_
      refine x_val rfl rfl rfl (v_fieldAddr (off' := 0) Tryz.underlying54 rfl sz35 (by decide) rfl rfl) ?_
      refine x_val rfl rfl rfl (v_fieldAddr (off' := 8) Tryz.underlying35 rfl sz3 (by decide) rfl rfl) ?_
      refine x_val rfl rfl rfl (v_load Tryz.underlying3 rfl rfl (at_ownL (vs := orC10 x first) (.head _) rfl)) ?_
      refine x_bool rfl rfl rfl (v_eql rfl rfl) ?_
      intro b27 hb27
      refine x_val rfl rfl rfl (v_assign rfl) ?_
      refine x_end ?_
      refine t_norm ?_
      refine w_cond rfl (fun hc23 => ?_) (fun hc23 => ?_)
      · simp only [hb27, decide_eq_true_eq, decide_eq_false_iff_not, Bool.and_eq_true, Bool.or_eq_true, Bool.and_eq_false_iff, Bool.or_eq_false_iff, Bool.not_eq_true', Bool.not_eq_false', ne_eq, Decidable.not_not] at hc23
        refine w_seq ?_
        refine rg_text ?_
        refine x_val rfl rfl rfl (v_assign rfl) ?_
        refine x_end ?_
        refine t_norm ?_
        refine w_ret ?_
        refine b_ret ?_
        refine t_ret ?_
        refine ret1 rfl rfl (fun w' hm' => ?_)
        rw [show (receiveP ⟨f, tol, some (x, first)⟩ 7 n) = (50, ⟨f, tol, some (x, first)⟩) from by unfold receiveP lookO; rw [if_pos rfl]; dsimp only; rw [if_pos (by simpa using hc23)]]
        exact ⟨rfl, (esO, ckO), hO, hm'.less (List.sublist_cons_self _ _) (fun _ h => h)⟩
      · simp only [hb27, decide_eq_true_eq, decide_eq_false_iff_not, Bool.and_eq_true, Bool.or_eq_true, Bool.and_eq_false_iff, Bool.or_eq_false_iff, Bool.not_eq_true', Bool.not_eq_false', ne_eq, Decidable.not_not] at hc23
        refine w_seq ?_
        refine rg_text ?_
        refine x_val rfl rfl rfl (v_move rfl) ?_
        refine x_bool rfl rfl rfl (v_lss rfl rfl) ?_
        intro b30 hb30
        refine x_val rfl rfl rfl (v_move rfl) ?_
        refine x_if [] rfl rfl rfl rfl rfl (fun hg => by obtain ⟨hg0, _⟩ := hg; subst hg0; (try simp only [List.cons_append, List.nil_append, gvl_nil, gvl_t, gvl_f]); exact v_move rfl) ?_
        refine x_if [] rfl rfl rfl rfl rfl (fun hg => by obtain ⟨hg0, _⟩ := hg; subst hg0; (try simp only [List.cons_append, List.nil_append, gvl_nil, gvl_t, gvl_f]); exact v_fieldAddr (off' := 0) Tryz.underlying54 rfl sz35 (by decide) rfl rfl) ?_
        refine x_if [] rfl rfl rfl rfl rfl (fun hg => by obtain ⟨hg0, _⟩ := hg; subst hg0; (try simp only [List.cons_append, List.nil_append, gvl_nil, gvl_t, gvl_f]); exact v_fieldAddr (off' := 6) Tryz.underlying35 rfl sz3 (by decide) rfl rfl) ?_
        refine x_if [] rfl rfl rfl rfl rfl (fun hg => by obtain ⟨hg0, _⟩ := hg; subst hg0; (try simp only [List.cons_append, List.nil_append, gvl_nil, gvl_t, gvl_f]); exact v_load Tryz.underlying3 rfl rfl (at_ownL (vs := orC10 x first) (.head _) rfl)) ?_
        refine x_if [] rfl rfl rfl rfl rfl (fun hg => by obtain ⟨hg0, _⟩ := hg; subst hg0; (try simp only [List.cons_append, List.nil_append, gvl_nil, gvl_t, gvl_f]); exact v_fieldAddr (off' := 0) Tryz.underlying54 rfl sz35 (by decide) rfl rfl) ?_
        refine x_if [] rfl rfl rfl rfl rfl (fun hg => by obtain ⟨hg0, _⟩ := hg; subst hg0; (try simp only [List.cons_append, List.nil_append, gvl_nil, gvl_t, gvl_f]); exact v_fieldAddr (off' := 8) Tryz.underlying35 rfl sz3 (by decide) rfl rfl) ?_
        refine x_if [] rfl rfl rfl rfl rfl (fun hg => by obtain ⟨hg0, _⟩ := hg; subst hg0; (try simp only [List.cons_append, List.nil_append, gvl_nil, gvl_t, gvl_f]); exact v_load Tryz.underlying3 rfl rfl (at_ownL (vs := orC10 x first) (.head _) rfl)) ?_
        refine x_if [] rfl rfl rfl rfl rfl (fun hg => by obtain ⟨hg0, _⟩ := hg; subst hg0; (try simp only [List.cons_append, List.nil_append, gvl_nil, gvl_t, gvl_f]); exact v_subi rfl rfl rfl (by first | omega | (dsimp only; omega))) ?_
        refine x_ifb [] rfl rfl rfl rfl rfl (fun hg => by obtain ⟨hg0, _⟩ := hg; subst hg0; (try simp only [List.cons_append, List.nil_append, gvl_nil, gvl_t, gvl_f]); exact v_gtr rfl rfl) ?_
        intro b40 hb40
        refine x_bool rfl rfl rfl (v_or rfl rfl) ?_
        intro b41 hb41
        refine x_val rfl rfl rfl (v_assign rfl) ?_
        refine x_end ?_
        refine t_norm ?_
        refine w_cond rfl (fun hc28 => ?_) (fun hc28 => ?_)
        · simp only [hb41, hb40, hb30, decide_eq_true_eq, decide_eq_false_iff_not, Bool.and_eq_true, Bool.or_eq_true, Bool.and_eq_false_iff, Bool.or_eq_false_iff, Bool.not_eq_true', Bool.not_eq_false', ne_eq, Decidable.not_not] at hc28
          refine w_seq ?_
          refine rg_text ?_
          refine x_val rfl rfl rfl (v_assign rfl) ?_
          refine x_end ?_
          refine t_norm ?_
          refine w_ret ?_
          refine b_ret ?_
          refine t_ret ?_
          refine ret1 rfl rfl (fun w' hm' => ?_)
          rw [show (receiveP ⟨f, tol, some (x, first)⟩ 7 n) = (1, ⟨f, tol, some (x, first)⟩) from by unfold receiveP lookO; rw [if_pos rfl]; dsimp only; rw [if_neg (by simpa using hc23), if_pos (by omega)]]
          exact ⟨rfl, (esO, ckO), hO, hm'.less (List.sublist_cons_self _ _) (fun _ h => h)⟩
        · simp only [hb41, hb40, hb30, decide_eq_true_eq, decide_eq_false_iff_not, Bool.and_eq_true, Bool.or_eq_true, Bool.and_eq_false_iff, Bool.or_eq_false_iff, Bool.not_eq_true', Bool.not_eq_false', ne_eq, Decidable.not_not] at hc28
          refine w_skip ?_
          refine b_norm ?_
          refine t_norm ?_
          refine w_seq ?_
          refine rg_text ?_
          refine x_val rfl rfl rfl (v_fieldAddr (off' := 0) Tryz.underlying54 rfl sz35 (by decide) rfl rfl) ?_
          refine x_val rfl rfl rfl (v_fieldAddr (off' := 8) Tryz.underlying35 rfl sz3 (by decide) rfl rfl) ?_
          refine x_val rfl rfl rfl (v_load Tryz.underlying3 rfl rfl (at_ownL (vs := orC10 x first) (.head _) rfl)) ?_
          refine x_val rfl rfl rfl (v_move rfl) ?_
          refine x_val rfl rfl rfl (v_addi rfl rfl rfl (by first | omega | (dsimp only; omega))) ?_
          refine x_val rfl rfl rfl (v_fieldAddr (off' := 0) Tryz.underlying54 rfl sz35 (by decide) rfl rfl) ?_
          refine x_val rfl rfl rfl (v_fieldAddr (off' := 8) Tryz.underlying35 rfl sz3 (by decide) rfl rfl) ?_
          refine x_store (cs := orC10 x first) (off := 8) (e := 54) (l2 := (pO, Obj.cells (orC pF tol mO).toArray 58) :: (mO, Obj.map esO ckO) :: (pX, Obj.cells (fxC f).toArray 88) :: (mF, Obj.map esF ckF) :: (pF, Obj.cells (fnC mF money).toArray 83) :: L) [] rfl rfl rfl rfl sz3 rfl (by show 9 ≤ 10; decide) ?_
          refine x_end ?_
          refine t_norm ?_
          refine w_seq ?_
          refine rg_text ?_
          refine x_val rfl rfl rfl (v_move rfl) ?_
          refine x_val rfl rfl rfl (v_load_blk (e := 54) (fz := (0, 0)) (cs := (orC10 { x with st := x.st + n } first).toArray) Tryz.underlying54 rfl rfl (.head _) sz54) ?_
          refine x_turnf (τ := Array MapEntry × Nat) (v := Value.tuple #[]) (fun q => MapF Tryz.prog 3 q.1 (fO (some ({ x with st := x.st + n }, first)))) (fun q => [(p7, Obj.cells (orC10 { x with st := x.st + n } first).toArray 54)] ++ (pO, Obj.cells (orC pF tol mO).toArray 58) :: (mO, Obj.map q.1 q.2) :: (pX, Obj.cells (fxC f).toArray 88) :: (mF, Obj.map esF ckF) :: (pF, Obj.cells (fnC mF money).toArray 83) :: L) rfl rfl Tryz.func27 (by kernel_rfl) rfl (fun w1 hw1 => c_Oput (l1 := [(p7, Obj.cells (orC10 { x with st := x.st + n } first).toArray 54)]) { x with st := x.st + n } first hw1 hO o11) ?_
          intro q51 hq51
          refine x_end ?_
          refine t_norm ?_
          refine w_seq ?_
          refine rg_text ?_
          refine x_val rfl rfl rfl (v_assign rfl) ?_
          refine x_end ?_
          refine t_norm ?_
          refine w_ret ?_
          refine ret1 rfl rfl (fun w' hm' => ?_)
          rw [show (receiveP ⟨f, tol, some (x, first)⟩ 7 n) = (0, ⟨f, tol, some ({ x with st := x.st + n }, first)⟩) from by unfold receiveP lookO; rw [if_pos rfl]; dsimp only; rw [if_neg (by simpa using hc23), if_neg (by omega)]]
          exact ⟨rfl, q51, hq51, hm'.less (List.sublist_cons_self _ _) (fun _ h => h)⟩
set_option maxRecDepth 100000 in
theorem c_Cancel {w : World} {L : List (Nat × Obj)} {ro : List Snap} {pX mF pF pO mO ckF ckO : Nat} {esF esO : Array MapEntry} {money tol first : Int} {f : FSt} {x : PK.Ord} (hm : Mem w ((pO, Obj.cells (orC pF tol mO).toArray 58) :: (mO, Obj.map esO ckO) :: (pX, Obj.cells (fxC f).toArray 88) :: (mF, Obj.map esF ckF) :: (pF, Obj.cells (fnC mF money).toArray 83) :: L) ro) (hF : MapF Tryz.prog 3 esF (fF pX)) (hO : MapF Tryz.prog 3 esO (fO (some (x, first)))) (hok : fundOK f) (htol : 0 ≤ tol ∧ tol ≤ 1000000) (hx : ordR x) (hfi : 0 ≤ first ∧ first ≤ 999999999) :
    Calls Tryz.prog 16 #[.pointer (some ⟨pO, 0, none⟩), .int .i64 7] w fun e w' => e = .returned (.int .i64 (cancelP ⟨f, tol, some (x, first)⟩ 7).1) ∧ ∃ q : Array MapEntry × Nat, MapF Tryz.prog 3 q.1 (fO ((cancelP ⟨f, tol, some (x, first)⟩ 7).2.x)) ∧ Mem w' ((pO, Obj.cells (orC pF tol mO).toArray 58) :: (mO, Obj.map q.1 q.2) :: (pX, Obj.cells (fxC (cancelP ⟨f, tol, some (x, first)⟩ 7).2.f).toArray 88) :: (mF, Obj.map esF ckF) :: (pF, Obj.cells (fnC mF money).toArray 83) :: L) ro := by
  obtain ⟨⟨o1, o2⟩, ⟨o3, o4⟩, ⟨o5, o6⟩, ⟨o7, o8⟩, ⟨o9, o10⟩, o11, o12, o13, o14⟩ := id hx
  have hres := res_rng hx
  refine enter_in hm (vs := [.pointer (some ⟨pO, 0, none⟩), .int .i64 7]) Tryz.func16 rfl Tryz.ntmps16 rfl ?_
  refine w_seq ?_
  refine rg_text ?_
  refine x_val rfl rfl rfl (v_assign rfl) ?_
  refine x_end ?_
  refine t_norm ?_
  refine w_seq ?_
  refine w_seq ?_
  refine rg_text ?_
  refine x_val rfl rfl rfl (v_move rfl) ?_
  refine x_val (v := Value.bool false) rfl rfl rfl (v_pnil (o := some ⟨pO, 0, none⟩) Tryz.underlying25 rfl rfl) ?_
  refine x_end ?_
  refine t_norm ?_
  refine w_cond rfl (fun hc9 => ?_) (fun hc9 => ?_)
  · cases hc9
  · skip
    refine w_skip ?_
    refine t_norm ?_
    refine w_seq ?_
    refine rg_text ?_
    refine x_val rfl rfl rfl (v_move rfl) ?_
    refine x_val rfl rfl rfl (v_nilCheck rfl) ?_
    refine x_val rfl rfl rfl (v_fieldAddr (off' := 2) Tryz.underlying58 rfl sz56 (by decide) rfl rfl) ?_
    refine x_val rfl rfl rfl (v_load Tryz.underlying56 rfl rfl (at_ownL (vs := orC pF tol mO) (.head _) rfl)) ?_
    refine x_val rfl rfl rfl (v_move rfl) ?_
    refine x_val (v := Value.tuple #[orV x first, .bool true]) rfl rfl rfl (v_lookup2H Tryz.underlying56 (Maps.int_keyed Tryz.underlying3) zr54 rfl rfl (Maps.keyOf_int_mk Tryz.underlying3 (by decide)) (map_own (.tail _ (.head _))) hO (by rw [fO_at]; rfl) (by rw [fO_at]; rfl)) ?_
    refine x_val rfl rfl rfl (v_move rfl) ?_
    refine x_val rfl rfl rfl (v_extract rfl rfl) ?_
    refine x_bool rfl rfl rfl (v_extract rfl rfl) ?_
    intro b18 hb18
    refine x_alloc rfl rfl rfl zr54 ?_
    intro p5
    refine x_store0 [] rfl rfl rfl rfl sz54 rfl rfl ?_
    refine x_val rfl rfl rfl (v_assign rfl) ?_
    refine x_end ?_
    refine t_norm ?_
    refine w_seq ?_
    refine w_block ?_
    refine w_seq ?_
    refine rg_text ?_
    refine x_val rfl rfl rfl (v_move rfl) ?_
    refine x_bool rfl rfl rfl (v_not rfl) ?_
    intro b21 hb21
    refine x_val rfl rfl rfl (v_assign rfl) ?_
    refine x_end ?_
    refine t_norm ?_
    refine w_cond rfl (fun hc19 => ?_) (fun hc19 => ?_)
    · exfalso
      rw [hb21, hb18] at hc19
      revert hc19; simp
    · simp only [hb21, hb18, decide_eq_true_eq, decide_eq_false_iff_not, Bool.and_eq_true, Bool.or_eq_true, Bool.and_eq_false_iff, Bool.or_eq_false_iff, Bool.not_eq_true', Bool.not_eq_false', ne_eq, Decidable.not_not] at hc19
      refine w_seq ?_
      refine rg_text ?_
      refine x_val rfl rfl rfl (v_fieldAddr (off' := 0) Tryz.underlying54 rfl sz35 (by decide) rfl rfl) ?_
      refine x_val rfl rfl rfl (v_fieldAddr (off' := 8) Tryz.underlying35 rfl sz3 (by decide) rfl rfl) ?_
      refine x_val rfl rfl rfl (v_load Tryz.underlying3 rfl rfl (at_ownL (vs := orC10 x first) (.head _) rfl)) ?_
      refine x_bool rfl rfl rfl (v_eql rfl rfl) ?_
      intro b26 hb26
      refine x_val rfl rfl rfl (v_move rfl) ?_
      refine x_if [] rfl rfl rfl rfl rfl (fun hg => by obtain ⟨hg0, _⟩ := hg; subst hg0; (try simp only [List.cons_append, List.nil_append, gvl_nil, gvl_t, gvl_f]); exact v_fieldAddr (off' := 0) Tryz.underlying54 rfl sz35 (by decide) rfl rfl) ?_
      refine x_if [] rfl rfl rfl rfl rfl (fun hg => by obtain ⟨hg0, _⟩ := hg; subst hg0; (try simp only [List.cons_append, List.nil_append, gvl_nil, gvl_t, gvl_f]); exact v_fieldAddr (off' := 8) Tryz.underlying35 rfl sz3 (by decide) rfl rfl) ?_
      refine x_if [] rfl rfl rfl rfl rfl (fun hg => by obtain ⟨hg0, _⟩ := hg; subst hg0; (try simp only [List.cons_append, List.nil_append, gvl_nil, gvl_t, gvl_f]); exact v_load Tryz.underlying3 rfl rfl (at_ownL (vs := orC10 x first) (.head _) rfl)) ?_
      refine x_if [] rfl rfl rfl rfl rfl (fun hg => by obtain ⟨hg0, _⟩ := hg; subst hg0; (try simp only [List.cons_append, List.nil_append, gvl_nil, gvl_t, gvl_f]); exact v_fieldAddr (off' := 0) Tryz.underlying54 rfl sz35 (by decide) rfl rfl) ?_
      refine x_if [] rfl rfl rfl rfl rfl (fun hg => by obtain ⟨hg0, _⟩ := hg; subst hg0; (try simp only [List.cons_append, List.nil_append, gvl_nil, gvl_t, gvl_f]); exact v_fieldAddr (off' := 7) Tryz.underlying35 rfl sz3 (by decide) rfl rfl) ?_
      refine x_if [] rfl rfl rfl rfl rfl (fun hg => by obtain ⟨hg0, _⟩ := hg; subst hg0; (try simp only [List.cons_append, List.nil_append, gvl_nil, gvl_t, gvl_f]); exact v_load Tryz.underlying3 rfl rfl (at_ownL (vs := orC10 x first) (.head _) rfl)) ?_
      refine x_ifb [] rfl rfl rfl rfl rfl (fun hg => by obtain ⟨hg0, _⟩ := hg; subst hg0; (try simp only [List.cons_append, List.nil_append, gvl_nil, gvl_t, gvl_f]); exact v_gtr rfl rfl) ?_
      intro b34 hb34
      refine x_bool rfl rfl rfl (v_or rfl rfl) ?_
      intro b35 hb35
      refine x_val rfl rfl rfl (v_assign rfl) ?_
      refine x_end ?_
      refine t_norm ?_
      refine w_cond rfl (fun hc22 => ?_) (fun hc22 => ?_)
      · simp only [hb35, hb34, hb26, decide_eq_true_eq, decide_eq_false_iff_not, Bool.and_eq_true, Bool.or_eq_true, Bool.and_eq_false_iff, Bool.or_eq_false_iff, Bool.not_eq_true', Bool.not_eq_false', ne_eq, Decidable.not_not] at hc22
        refine w_seq ?_
        refine rg_text ?_
        refine x_val rfl rfl rfl (v_assign rfl) ?_
        refine x_end ?_
        refine t_norm ?_
        refine w_ret ?_
        refine b_ret ?_
        refine t_ret ?_
        refine ret1 rfl rfl (fun w' hm' => ?_)
        rw [show (cancelP ⟨f, tol, some (x, first)⟩ 7) = (50, ⟨f, tol, some (x, first)⟩) from by unfold cancelP lookO; rw [if_pos rfl]; dsimp only; rw [if_pos (by omega)]]
        exact ⟨rfl, (esO, ckO), hO, hm'.less (List.sublist_cons_self _ _) (fun _ h => h)⟩
      · simp only [hb35, hb34, hb26, decide_eq_true_eq, decide_eq_false_iff_not, Bool.and_eq_true, Bool.or_eq_true, Bool.and_eq_false_iff, Bool.or_eq_false_iff, Bool.not_eq_true', Bool.not_eq_false', ne_eq, Decidable.not_not] at hc22
        refine w_skip ?_
        refine b_norm ?_
        refine t_norm ?_
        refine w_seq ?_
        refine w_seq ?_
        refine rg_draw 9 [(true, 0), (true, 1), (true, 2), (true, 3), (true, 4), (true, 5), (true, 6), (true, 7), (true, 8)] (by kernel_rfl) (by kernel_rfl) ?_
        refine x_val rfl rfl rfl (v_move rfl) ?_
        refine x_val rfl rfl rfl (v_nilCheck rfl) ?_
        refine x_val rfl rfl rfl (v_fieldAddr (off' := 0) Tryz.underlying58 rfl sz26 (by decide) rfl rfl) ?_
        refine x_val rfl rfl rfl (v_load Tryz.underlying26 rfl rfl (at_ownL (vs := orC pF tol mO) (.tail _ (.head _)) rfl)) ?_
        refine x_val rfl rfl rfl (v_fieldAddr (off' := 0) Tryz.underlying54 rfl sz35 (by decide) rfl rfl) ?_
        refine x_val rfl rfl rfl (v_fieldAddr (off' := 1) Tryz.underlying35 rfl sz3 (by decide) rfl rfl) ?_
        refine x_val rfl rfl rfl (v_load Tryz.underlying3 rfl rfl (at_ownL (vs := orC10 x first) (.head _) (by show some (Value.int .i64 x.fund) = some (Value.int .i64 2); rw [o12]))) ?_
        refine x_val rfl rfl rfl (v_load_blk (e := 54) (fz := (0, 0)) (cs := (orC10 x first).toArray) Tryz.underlying54 rfl rfl (.head _) sz54) ?_
        refine x_callv rfl rfl rfl Tryz.func24 (by kernel_rfl) rfl (fun w1 hw1 => c_res x first w1 hx) ?_
        refine x_turnf (τ := Unit) (v := Value.int .i64 (relP f (resP x)).1) (fun _ => True) (fun _ => (p5, Obj.cells (orC10 x first).toArray 54) :: (pO, Obj.cells (orC pF tol mO).toArray 58) :: (mO, Obj.map esO ckO) :: (pX, Obj.cells (fxC (relP f (resP x)).2).toArray 88) :: (mF, Obj.map esF ckF) :: (pF, Obj.cells (fnC mF money).toArray 83) :: L) rfl rfl Tryz.func26 (by kernel_rfl) rfl (fun w1 hw1 => c_Rel (l1 := [(p5, Obj.cells (orC10 x first).toArray 54), (pO, Obj.cells (orC pF tol mO).toArray 58), (mO, Obj.map esO ckO)]) hw1 hF hok (resP x)) ?_
        intro _ _
        refine x_val rfl rfl rfl (v_assign rfl) ?_
        refine x_end ?_
        refine t_norm ?_
        refine w_seq ?_
        refine rg_text ?_
        refine x_val rfl rfl rfl (v_move rfl) ?_
        refine x_bool rfl rfl rfl (v_neq rfl rfl) ?_
        intro b47 hb47
        refine x_end ?_
        refine t_norm ?_
        refine w_cond rfl (fun hc47 => ?_) (fun hc47 => ?_)
        · simp only [hb47, decide_eq_true_eq, decide_eq_false_iff_not, Bool.and_eq_true, Bool.or_eq_true, Bool.and_eq_false_iff, Bool.or_eq_false_iff, Bool.not_eq_true', Bool.not_eq_false', ne_eq, Decidable.not_not] at hc47
          refine w_seq ?_
          refine rg_text ?_
          refine x_val rfl rfl rfl (v_move rfl) ?_
          refine x_val rfl rfl rfl (v_assign rfl) ?_
          refine x_end ?_
          refine t_norm ?_
          refine w_ret ?_
          refine t_ret ?_
          refine ret1 rfl rfl (fun w' hm' => ?_)
          have hf1 : (relP f (resP x)).2 = f := by unfold relP at hc47 ⊢; split at hc47 <;> rename_i h1 <;> simp only [h1, if_true, if_false] <;> split at hc47 <;> rename_i h2 <;> simp_all
          rw [hf1] at hm'
          rw [show (cancelP ⟨f, tol, some (x, first)⟩ 7) = ((relP f (resP x)).1, ⟨f, tol, some (x, first)⟩) from by unfold cancelP lookO; rw [if_pos rfl]; dsimp only; rw [if_neg (by omega), if_pos (by simpa using hc47)]]
          exact ⟨rfl, (esO, ckO), hO, hm'.less (List.sublist_cons_self _ _) (fun _ h => h)⟩
        · simp only [hb47, decide_eq_true_eq, decide_eq_false_iff_not, Bool.and_eq_true, Bool.or_eq_true, Bool.and_eq_false_iff, Bool.or_eq_false_iff, Bool.not_eq_true', Bool.not_eq_false', ne_eq, Decidable.not_not] at hc47
          refine w_skip ?_
          refine t_norm ?_
          refine w_seq ?_
          refine rg_text ?_
          refine x_val rfl rfl rfl (v_fieldAddr (off' := 0) Tryz.underlying54 rfl sz35 (by decide) rfl rfl) ?_
          refine x_val rfl rfl rfl (v_fieldAddr (off' := 7) Tryz.underlying35 rfl sz3 (by decide) rfl rfl) ?_
          refine x_val rfl rfl rfl (v_load Tryz.underlying3 rfl rfl (at_ownL (vs := orC10 x first) (.head _) rfl)) ?_
          refine x_val rfl rfl rfl (v_fieldAddr (off' := 0) Tryz.underlying54 rfl sz35 (by decide) rfl rfl) ?_
          refine x_val rfl rfl rfl (v_fieldAddr (off' := 6) Tryz.underlying35 rfl sz3 (by decide) rfl rfl) ?_
          refine x_store (cs := orC10 x first) (off := 6) (e := 54) (l2 := (pO, Obj.cells (orC pF tol mO).toArray 58) :: (mO, Obj.map esO ckO) :: (pX, Obj.cells (fxC (relP f (resP x)).2).toArray 88) :: (mF, Obj.map esF ckF) :: (pF, Obj.cells (fnC mF money).toArray 83) :: L) [] rfl rfl rfl rfl sz3 rfl (by show 7 ≤ 10; decide) ?_
          refine x_val rfl rfl rfl (v_fieldAddr (off' := 0) Tryz.underlying54 rfl sz35 (by decide) rfl rfl) ?_
          refine x_val rfl rfl rfl (v_fieldAddr (off' := 8) Tryz.underlying35 rfl sz3 (by decide) rfl rfl) ?_
          refine x_store (cs := orC10 { x with prom := x.paid } first) (off := 8) (e := 54) (l2 := (pO, Obj.cells (orC pF tol mO).toArray 58) :: (mO, Obj.map esO ckO) :: (pX, Obj.cells (fxC (relP f (resP x)).2).toArray 88) :: (mF, Obj.map esF ckF) :: (pF, Obj.cells (fnC mF money).toArray 83) :: L) [] rfl rfl rfl rfl sz3 rfl (by show 9 ≤ 10; decide) ?_
          refine x_end ?_
          refine t_norm ?_
          refine w_seq ?_
          refine rg_text ?_
          refine x_val rfl rfl rfl (v_move rfl) ?_
          refine x_val rfl rfl rfl (v_load_blk (e := 54) (fz := (0, 0)) (cs := (orC10 { x with prom := x.paid, st := -1 } first).toArray) Tryz.underlying54 rfl rfl (.head _) sz54) ?_
          refine x_turnf (τ := Array MapEntry × Nat) (v := Value.tuple #[]) (fun q => MapF Tryz.prog 3 q.1 (fO (some ({ x with prom := x.paid, st := -1 }, first)))) (fun q => [(p5, Obj.cells (orC10 { x with prom := x.paid, st := -1 } first).toArray 54)] ++ (pO, Obj.cells (orC pF tol mO).toArray 58) :: (mO, Obj.map q.1 q.2) :: (pX, Obj.cells (fxC (relP f (resP x)).2).toArray 88) :: (mF, Obj.map esF ckF) :: (pF, Obj.cells (fnC mF money).toArray 83) :: L) rfl rfl Tryz.func27 (by kernel_rfl) rfl (fun w1 hw1 => c_Oput (l1 := [(p5, Obj.cells (orC10 { x with prom := x.paid, st := -1 } first).toArray 54)]) { x with prom := x.paid, st := -1 } first hw1 hO o11) ?_
          intro q58 hq58
          refine x_end ?_
          refine t_norm ?_
          refine w_seq ?_
          refine rg_text ?_
          refine x_val rfl rfl rfl (v_assign rfl) ?_
          refine x_end ?_
          refine t_norm ?_
          refine w_ret ?_
          refine ret1 rfl rfl (fun w' hm' => ?_)
          rw [show (cancelP ⟨f, tol, some (x, first)⟩ 7) = (0, ⟨(relP f (resP x)).2, tol, some ({ x with prom := x.paid, st := -1 }, first)⟩) from by unfold cancelP lookO; rw [if_pos rfl]; dsimp only; rw [if_neg (by omega), if_neg (by simpa using hc47)]]
          exact ⟨rfl, q58, hq58, hm'.less (List.sublist_cons_self _ _) (fun _ h => h)⟩

end Go.Proofs.YtdampedpgbnihaaGreatDoor

namespace Go.Proofs.YtdampedpgbnihaaGreatDoor
open Go.RowKit Go.PK
set_option linter.unusedVariables false
set_option linter.unusedSimpArgs false
theorem answ_ordR {x a : PK.Ord} (hx : ordR x) (h1 : 0 ≤ a.price ∧ a.price ≤ 999999999) (h2 : 0 ≤ a.copies ∧ a.copies ≤ 9999) : ordR (answO x a) := by
  obtain ⟨_, o3, _, o7, o9, o11, o12, o13, o14⟩ := hx
  exact ⟨h1, o3, h2, o7, o9, o11, o12, o13, o14⟩
theorem encP_f {f : FSt} {n : Int} (h : (encP f n).1 ≠ 0) : (encP f n).2 = f := by
  unfold encP at h ⊢
  by_cases h1 : n < 0
  · rw [if_pos h1]
  · rw [if_neg h1] at h ⊢
    by_cases h2 : n > f.free
    · rw [if_pos h2]
    · rw [if_neg h2] at h; exact absurd rfl h
theorem relP_f {f : FSt} {n : Int} (h : (relP f n).1 ≠ 0) : (relP f n).2 = f := by
  unfold relP at h ⊢
  by_cases h1 : n < 0
  · rw [if_pos h1]
  · rw [if_neg h1] at h ⊢
    by_cases h2 : n > f.en
    · rw [if_pos h2]
    · rw [if_neg h2] at h; exact absurd rfl h
theorem postA_f {f : FSt} {m n : Int} (h : (postA f m n).1 ≠ 0) : (postA f m n).2 = f := by
  unfold postA at h ⊢
  by_cases h1 : n > m
  · rw [if_pos h1] at h ⊢; exact encP_f h
  · rw [if_neg h1] at h ⊢; exact relP_f h
set_option maxRecDepth 100000 in
theorem c_Answer {w : World} {L : List (Nat × Obj)} {ro : List Snap} {pX mF pF pO mO ckF ckO : Nat} {esF esO : Array MapEntry} {money tol first : Int} {f : FSt} {x : PK.Ord} (hm : Mem w ((pO, Obj.cells (orC pF tol mO).toArray 58) :: (mO, Obj.map esO ckO) :: (pX, Obj.cells (fxC f).toArray 88) :: (mF, Obj.map esF ckF) :: (pF, Obj.cells (fnC mF money).toArray 83) :: L) ro) (hF : MapF Tryz.prog 3 esF (fF pX)) (hO : MapF Tryz.prog 3 esO (fO (some (x, first)))) (hok : fundOK f) (htol : 0 ≤ tol ∧ tol ≤ 1000000) (hx : ordR x) (hfi : 0 ≤ first ∧ first ≤ 999999999) {ws : World} (hws : (ws, fun _ => True) ∈ ro) (hL : LD ws) (s : ByteArray) (hs : s.size ≤ 200000000) (h0 : (parR s).2.2 = 0) (hbig : bigO (parR s).1) (a : PK.Ord) (hrd : rdO (parR s).1 = (a, 0)) (ha7 : a.id = 7) (ha1 : 0 ≤ a.price ∧ a.price ≤ 999999999) (ha2 : 0 ≤ a.copies ∧ a.copies ≤ 9999) :
    Calls Tryz.prog 9 #[.pointer (some ⟨pO, 0, none⟩), .string s] w fun e w' => e = .returned (.int .i64 (answerP ⟨f, tol, some (x, first)⟩ a 0).1) ∧ ∃ q : Array MapEntry × Nat, MapF Tryz.prog 3 q.1 (fO ((answerP ⟨f, tol, some (x, first)⟩ a 0).2.x)) ∧ Mem w' ((pO, Obj.cells (orC pF tol mO).toArray 58) :: (mO, Obj.map q.1 q.2) :: (pX, Obj.cells (fxC (answerP ⟨f, tol, some (x, first)⟩ a 0).2.f).toArray 88) :: (mF, Obj.map esF ckF) :: (pF, Obj.cells (fnC mF money).toArray 83) :: L) ro := by
  obtain ⟨⟨o1, o2⟩, ⟨o3, o4⟩, ⟨o5, o6⟩, ⟨o7, o8⟩, ⟨o9, o10⟩, o11, o12, o13, o14⟩ := id hx
  have hy := answ_ordR hx ha1 ha2
  have hres : -99980001000000 ≤ resP x ∧ resP x ≤ 99980001000000 := res_rng hx
  have hres2 : -99980001000000 ≤ resP (answO x a) ∧ resP (answO x a) ≤ 99980001000000 := res_rng hy
  refine enter_in hm (vs := [.pointer (some ⟨pO, 0, none⟩), .string s]) Tryz.func9 rfl Tryz.ntmps9 rfl ?_
  refine w_seq ?_
  refine rg_text ?_
  refine x_val rfl rfl rfl (v_assign rfl) ?_
  refine x_end ?_
  refine t_norm ?_
  refine w_seq ?_
  refine w_seq ?_
  refine rg_text ?_
  refine x_val rfl rfl rfl (v_move rfl) ?_
  refine x_val (v := Value.bool false) rfl rfl rfl (v_pnil (o := some ⟨pO, 0, none⟩) Tryz.underlying25 rfl rfl) ?_
  refine x_end ?_
  refine t_norm ?_
  refine w_cond rfl (fun hc12 => ?_) (fun hc12 => ?_)
  · cases hc12
  · skip
    refine w_skip ?_
    refine t_norm ?_
    refine w_seq ?_
    refine rg_text ?_
    refine x_val rfl rfl rfl (v_move rfl) ?_
    refine x_callv (v := Value.tuple #[.agg a.cells.toArray, .int .i64 0]) rfl rfl rfl Tryz.func21 (by kernel_rfl) rfl (fun w1 hw1 => by have h := c_read1 s w1 hs h0 hbig (hL.later (hw1.base (by first | exact hws | exact .tail _ hws | exact .tail _ (.tail _ hws) | exact .tail _ (.tail _ (.tail _ hws))))); rw [hrd] at h; exact h) ?_
    refine x_val rfl rfl rfl (v_move rfl) ?_
    refine x_val rfl rfl rfl (v_extract rfl rfl) ?_
    refine x_val rfl rfl rfl (v_extract rfl rfl) ?_
    refine x_alloc rfl rfl rfl zr35 ?_
    intro p5
    refine x_store0 [] rfl rfl rfl rfl sz35 rfl rfl ?_
    refine x_val rfl rfl rfl (v_assign rfl) ?_
    refine x_end ?_
    refine t_norm ?_
    refine w_seq ?_
    refine w_seq ?_
    refine rg_text ?_
    refine x_val rfl rfl rfl (v_move rfl) ?_
    refine x_bool rfl rfl rfl (v_neq rfl rfl) ?_
    intro b19 hb19
    refine x_end ?_
    refine t_norm ?_
    refine w_cond rfl (fun hc19 => ?_) (fun hc19 => ?_)
    · exfalso
      rw [hb19] at hc19
      revert hc19; simp
    · simp only [hb19, decide_eq_true_eq, decide_eq_false_iff_not, Bool.and_eq_true, Bool.or_eq_true, Bool.and_eq_false_iff, Bool.or_eq_false_iff, Bool.not_eq_true', Bool.not_eq_false', ne_eq, Decidable.not_not] at hc19
      refine w_skip ?_
      refine t_norm ?_
      refine w_seq ?_
      refine rg_inv ((p5, Obj.cells a.cells.toArray 35) :: (pO, Obj.cells (orC pF tol mO).toArray 58) :: (mO, Obj.map esO ckO) :: (pX, Obj.cells (fxC f).toArray 88) :: (mF, Obj.map esF ckF) :: (pF, Obj.cells (fnC mF money).toArray 83) :: L) 13 (.flt 0 (.flt 1 (.flt 2 (.flt 3 (.flt 4 (.flt 5 (.flt 6 (.flt 7 (.flt 8 (.flt 9 (.gr 10 (.gr 11 (.flt 12 .done) .nil) .nil))))))))))) (.refl _) (by kernel_rfl) (by kernel_rfl) ?_
      refine j_val rfl rfl (v_move rfl) ?_
      refine j_val rfl rfl (v_nilCheck rfl) ?_
      refine j_val rfl rfl (v_fieldAddr (off' := 2) Tryz.underlying58 rfl sz56 (by decide) rfl rfl) ?_
      refine j_val rfl rfl (v_load Tryz.underlying56 rfl rfl (at_ownL (vs := orC pF tol mO) (.tail _ (.head _)) rfl)) ?_
      refine j_val rfl rfl (v_fieldAddr (off' := 0) Tryz.underlying35 rfl sz3 (by decide) rfl rfl) ?_
      refine j_val rfl rfl (v_load Tryz.underlying3 rfl rfl (at_ownL (vs := a.cells) (.head _) (by show some (Value.int .i64 a.id) = some (Value.int .i64 7); rw [ha7]))) ?_
      refine j_val (v := Value.tuple #[orV x first, .bool true]) rfl rfl (v_lookup2H Tryz.underlying56 (Maps.int_keyed Tryz.underlying3) zr54 rfl rfl (Maps.keyOf_int_mk Tryz.underlying3 (by decide)) (map_own (.tail _ (.tail _ (.head _)))) hO (by rw [fO_at]; rfl) (by rw [fO_at]; rfl)) ?_
      refine j_val rfl rfl (v_move rfl) ?_
      refine j_val rfl rfl (v_extract rfl rfl) ?_
      refine j_bool rfl rfl (v_extract rfl rfl) ?_
      intro b30 hb30
      refine j_gr ?_ j_nil
      refine x_alloc rfl rfl rfl zr54 ?_
      intro p7
      refine x_end ?_
      refine j_end (List.sublist_cons_self _ _) ?_
      refine j_gr ?_ j_nil
      refine x_store0 [] rfl rfl rfl rfl sz54 rfl rfl ?_
      refine x_end ?_
      refine j_end (List.sublist_cons_self _ _) ?_
      refine j_val rfl rfl (v_assign rfl) ?_
      refine j_done ?_
      refine x_end ?_
      refine t_norm ?_
      refine w_seq ?_
      refine w_block ?_
      refine w_seq ?_
      refine rg_text ?_
      refine x_val rfl rfl rfl (v_move rfl) ?_
      refine x_bool rfl rfl rfl (v_not rfl) ?_
      intro b33 hb33
      refine x_val rfl rfl rfl (v_assign rfl) ?_
      refine x_end ?_
      refine t_norm ?_
      refine w_cond rfl (fun hc31 => ?_) (fun hc31 => ?_)
      · exfalso
        rw [hb33, hb30] at hc31
        revert hc31; simp
      · simp only [hb33, hb30, decide_eq_true_eq, decide_eq_false_iff_not, Bool.and_eq_true, Bool.or_eq_true, Bool.and_eq_false_iff, Bool.or_eq_false_iff, Bool.not_eq_true', Bool.not_eq_false', ne_eq, Decidable.not_not] at hc31
        refine w_seq ?_
        refine rg_text ?_
        refine x_val rfl rfl rfl (v_fieldAddr (off' := 0) Tryz.underlying54 rfl sz35 (by decide) rfl rfl) ?_
        refine x_val rfl rfl rfl (v_fieldAddr (off' := 8) Tryz.underlying35 rfl sz3 (by decide) rfl rfl) ?_
        refine x_val rfl rfl rfl (v_load Tryz.underlying3 rfl rfl (at_ownL (vs := orC10 x first) (.head _) rfl)) ?_
        refine x_bool rfl rfl rfl (v_neq rfl rfl) ?_
        intro b38 hb38
        refine x_val rfl rfl rfl (v_move rfl) ?_
        refine x_if [] rfl rfl rfl rfl rfl (fun hg => by obtain ⟨hg0, _⟩ := hg; subst hg0; (try simp only [List.cons_append, List.nil_append, gvl_nil, gvl_t, gvl_f]); exact v_fieldAddr (off' := 0) Tryz.underlying54 rfl sz35 (by decide) rfl rfl) ?_
        refine x_if [] rfl rfl rfl rfl rfl (fun hg => by obtain ⟨hg0, _⟩ := hg; subst hg0; (try simp only [List.cons_append, List.nil_append, gvl_nil, gvl_t, gvl_f]); exact v_fieldAddr (off' := 7) Tryz.underlying35 rfl sz3 (by decide) rfl rfl) ?_
        refine x_if [] rfl rfl rfl rfl rfl (fun hg => by obtain ⟨hg0, _⟩ := hg; subst hg0; (try simp only [List.cons_append, List.nil_append, gvl_nil, gvl_t, gvl_f]); exact v_load Tryz.underlying3 rfl rfl (at_ownL (vs := orC10 x first) (.head _) rfl)) ?_
        refine x_ifb [] rfl rfl rfl rfl rfl (fun hg => by obtain ⟨hg0, _⟩ := hg; subst hg0; (try simp only [List.cons_append, List.nil_append, gvl_nil, gvl_t, gvl_f]); exact v_neq rfl rfl) ?_
        intro b43 hb43
        refine x_bool rfl rfl rfl (v_or rfl rfl) ?_
        intro b44 hb44
        refine x_val rfl rfl rfl (v_assign rfl) ?_
        refine x_end ?_
        refine t_norm ?_
        refine w_cond rfl (fun hc34 => ?_) (fun hc34 => ?_)
        · simp only [hb44, hb43, hb38, decide_eq_true_eq, decide_eq_false_iff_not, Bool.and_eq_true, Bool.or_eq_true, Bool.and_eq_false_iff, Bool.or_eq_false_iff, Bool.not_eq_true', Bool.not_eq_false', ne_eq, Decidable.not_not] at hc34
          refine w_seq ?_
          refine rg_text ?_
          refine x_val rfl rfl rfl (v_assign rfl) ?_
          refine x_end ?_
          refine t_norm ?_
          refine w_ret ?_
          refine b_ret ?_
          refine t_ret ?_
          refine ret1 rfl rfl (fun w' hm' => ?_)
          rw [show (answerP ⟨f, tol, some (x, first)⟩ a 0) = (50, ⟨f, tol, some (x, first)⟩) from by unfold answerP; rw [if_neg (by decide), show lookO ⟨f, tol, some (x, first)⟩ a.id = some (x, first) from by unfold lookO; rw [if_pos ha7]]; dsimp only; rw [if_pos (by omega)]]
          exact ⟨rfl, (esO, ckO), hO, hm'.less ((List.sublist_cons_self _ _).trans (List.sublist_cons_self _ _)) (fun _ h => h)⟩
        · simp only [hb44, hb43, hb38, decide_eq_true_eq, decide_eq_false_iff_not, Bool.and_eq_true, Bool.or_eq_true, Bool.and_eq_false_iff, Bool.or_eq_false_iff, Bool.not_eq_true', Bool.not_eq_false', ne_eq, Decidable.not_not] at hc34
          refine w_seq ?_
          refine rg_text ?_
          refine x_val rfl rfl rfl (v_fieldAddr (off' := 0) Tryz.underlying54 rfl sz35 (by decide) rfl rfl) ?_
          refine x_val rfl rfl rfl (v_fieldAddr (off' := 1) Tryz.underlying35 rfl sz3 (by decide) rfl rfl) ?_
          refine x_val rfl rfl rfl (v_load Tryz.underlying3 rfl rfl (at_ownL (vs := orC10 x first) (.head _) rfl)) ?_
          refine x_val rfl rfl rfl (v_fieldAddr (off' := 1) Tryz.underlying35 rfl sz3 (by decide) rfl rfl) ?_
          refine x_val rfl rfl rfl (v_load Tryz.underlying3 rfl rfl (at_ownL (vs := a.cells) (.tail _ (.head _)) rfl)) ?_
          refine x_bool rfl rfl rfl (v_neq rfl rfl) ?_
          intro b51 hb51
          refine x_val rfl rfl rfl (v_move rfl) ?_
          refine x_if [] rfl rfl rfl rfl rfl (fun hg => by obtain ⟨hg0, _⟩ := hg; subst hg0; (try simp only [List.cons_append, List.nil_append, gvl_nil, gvl_t, gvl_f]); exact v_fieldAddr (off' := 0) Tryz.underlying54 rfl sz35 (by decide) rfl rfl) ?_
          refine x_if [] rfl rfl rfl rfl rfl (fun hg => by obtain ⟨hg0, _⟩ := hg; subst hg0; (try simp only [List.cons_append, List.nil_append, gvl_nil, gvl_t, gvl_f]); exact v_fieldAddr (off' := 2) Tryz.underlying35 rfl sz33 (by decide) rfl rfl) ?_
          refine x_if [] rfl rfl rfl rfl rfl (v := Value.agg #[.int .i64 x.src, .int .i64 x.num]) (fun hg => by obtain ⟨hg0, _⟩ := hg; subst hg0; (try simp only [List.cons_append, List.nil_append, gvl_nil, gvl_t, gvl_f]); exact v_loadN (vs := [Value.int .i64 x.src, .int .i64 x.num]) Tryz.underlying33 rfl sz33 rfl (fun j hj => at_ownL (vs := orC10 x first) (.head _) (by match j, hj with | 0, _ => rfl | 1, _ => rfl))) ?_
          refine x_if [] rfl rfl rfl rfl rfl (fun hg => by obtain ⟨hg0, _⟩ := hg; subst hg0; (try simp only [List.cons_append, List.nil_append, gvl_nil, gvl_t, gvl_f]); exact v_fieldAddr (off' := 2) Tryz.underlying35 rfl sz33 (by decide) rfl rfl) ?_
          refine x_if [] rfl rfl rfl rfl rfl (v := Value.agg #[.int .i64 a.src, .int .i64 a.num]) (fun hg => by obtain ⟨hg0, _⟩ := hg; subst hg0; (try simp only [List.cons_append, List.nil_append, gvl_nil, gvl_t, gvl_f]); exact v_loadN (vs := [Value.int .i64 a.src, .int .i64 a.num]) Tryz.underlying33 rfl sz33 rfl (fun j hj => at_ownL (vs := a.cells) (.tail _ (.head _)) (by match j, hj with | 0, _ => rfl | 1, _ => rfl))) ?_
          refine x_ifb [] rfl rfl rfl rfl rfl (c := !decide (x.src = a.src ∧ x.num = a.num)) (fun hg => by obtain ⟨hg0, _⟩ := hg; subst hg0; (try simp only [List.cons_append, List.nil_append, gvl_nil, gvl_t, gvl_f]); exact v_neA (by kernel_rfl) rfl rfl (fun w1 => eqRec w1 x.src x.num a.src a.num)) ?_
          intro b58 hb58
          refine x_bool rfl rfl rfl (v_or rfl rfl) ?_
          intro b59 hb59
          refine x_val rfl rfl rfl (v_move rfl) ?_
          refine x_if [] rfl rfl rfl rfl rfl (fun hg => by obtain ⟨hg0, _⟩ := hg; subst hg0; (try simp only [List.cons_append, List.nil_append, gvl_nil, gvl_t, gvl_f]); exact v_fieldAddr (off' := 4) Tryz.underlying35 rfl sz3 (by decide) rfl rfl) ?_
          refine x_if [] rfl rfl rfl rfl rfl (fun hg => by obtain ⟨hg0, _⟩ := hg; subst hg0; (try simp only [List.cons_append, List.nil_append, gvl_nil, gvl_t, gvl_f]); exact v_load Tryz.underlying3 rfl rfl (at_ownL (vs := a.cells) (.tail _ (.head _)) rfl)) ?_
          refine x_if [] rfl rfl rfl rfl rfl (fun hg => by obtain ⟨hg0, _⟩ := hg; subst hg0; (try simp only [List.cons_append, List.nil_append, gvl_nil, gvl_t, gvl_f]); exact v_fieldAddr (off' := 0) Tryz.underlying54 rfl sz35 (by decide) rfl rfl) ?_
          refine x_if [] rfl rfl rfl rfl rfl (fun hg => by obtain ⟨hg0, _⟩ := hg; subst hg0; (try simp only [List.cons_append, List.nil_append, gvl_nil, gvl_t, gvl_f]); exact v_fieldAddr (off' := 4) Tryz.underlying35 rfl sz3 (by decide) rfl rfl) ?_
          refine x_if [] rfl rfl rfl rfl rfl (fun hg => by obtain ⟨hg0, _⟩ := hg; subst hg0; (try simp only [List.cons_append, List.nil_append, gvl_nil, gvl_t, gvl_f]); exact v_load Tryz.underlying3 rfl rfl (at_ownL (vs := orC10 x first) (.head _) rfl)) ?_
          refine x_ifb [] rfl rfl rfl rfl rfl (fun hg => by obtain ⟨hg0, _⟩ := hg; subst hg0; (try simp only [List.cons_append, List.nil_append, gvl_nil, gvl_t, gvl_f]); exact v_gtr rfl rfl) ?_
          intro b66 hb66
          refine x_bool rfl rfl rfl (v_or rfl rfl) ?_
          intro b67 hb67
          refine x_val rfl rfl rfl (v_assign rfl) ?_
          refine x_end ?_
          refine t_norm ?_
          refine w_cond rfl (fun hc45 => ?_) (fun hc45 => ?_)
          · simp only [hb67, hb66, hb59, hb51, decide_eq_true_eq, decide_eq_false_iff_not, Bool.and_eq_true, Bool.or_eq_true, Bool.and_eq_false_iff, Bool.or_eq_false_iff, Bool.not_eq_true', Bool.not_eq_false', ne_eq, Decidable.not_not] at hc45
            refine w_seq ?_
            refine rg_text ?_
            refine x_val rfl rfl rfl (v_assign rfl) ?_
            refine x_end ?_
            refine t_norm ?_
            refine w_ret ?_
            refine b_ret ?_
            refine t_ret ?_
            have hq : (x.fund ≠ a.fund ∨ ¬(x.src = a.src ∧ x.num = a.num)) ∨ a.copies > x.copies := by
              rcases hc45 with (h | h) | h
              · exact .inl (.inl h)
              · exact .inl (.inr (fun q => by rw [hb58] at h; simp [q.1, q.2] at h))
              · exact .inr (by omega)
            refine ret1 rfl rfl (fun w' hm' => ?_)
            rw [show (answerP ⟨f, tol, some (x, first)⟩ a 0) = (1, ⟨f, tol, some (x, first)⟩) from by unfold answerP; rw [if_neg (by decide), show lookO ⟨f, tol, some (x, first)⟩ a.id = some (x, first) from by unfold lookO; rw [if_pos ha7]]; dsimp only; rw [if_neg (by omega), if_pos hq]]
            exact ⟨rfl, (esO, ckO), hO, hm'.less ((List.sublist_cons_self _ _).trans (List.sublist_cons_self _ _)) (fun _ h => h)⟩
          · simp only [hb67, hb66, hb59, hb51, decide_eq_true_eq, decide_eq_false_iff_not, Bool.and_eq_true, Bool.or_eq_true, Bool.and_eq_false_iff, Bool.or_eq_false_iff, Bool.not_eq_true', Bool.not_eq_false', ne_eq, Decidable.not_not] at hc45
            refine w_seq ?_
            refine rg_text ?_
            refine x_val rfl rfl rfl (v_move rfl) ?_
            refine x_val rfl rfl rfl (v_fieldAddr (off' := 5) Tryz.underlying35 rfl sz3 (by decide) rfl rfl) ?_
            refine x_val rfl rfl rfl (v_load Tryz.underlying3 rfl rfl (at_ownL (vs := a.cells) (.tail _ (.head _)) rfl)) ?_
            refine x_val rfl rfl rfl (v_fieldAddr (off' := 9) Tryz.underlying54 rfl sz3 (by decide) rfl rfl) ?_
            refine x_val rfl rfl rfl (v_load Tryz.underlying3 rfl rfl (at_ownL (vs := orC10 x first) (.head _) rfl)) ?_
            refine x_callb rfl rfl rfl Tryz.func23 (by kernel_rfl) rfl (fun w1 hw1 => c_near (tol := tol) a.price first w1 (at_ownL (vs := orC pF tol mO) (.tail _ (.tail _ (.head _))) rfl w1 hw1) htol ha1 hfi) ?_
            intro b74 hb74
            refine x_bool rfl rfl rfl (v_not rfl) ?_
            intro b75 hb75
            refine x_val rfl rfl rfl (v_assign rfl) ?_
            refine x_end ?_
            refine t_norm ?_
            refine w_cond rfl (fun hc68 => ?_) (fun hc68 => ?_)
            · simp only [hb75, hb74, decide_eq_true_eq, decide_eq_false_iff_not, Bool.and_eq_true, Bool.or_eq_true, Bool.and_eq_false_iff, Bool.or_eq_false_iff, Bool.not_eq_true', Bool.not_eq_false', ne_eq, Decidable.not_not] at hc68
              refine w_seq ?_
              refine rg_text ?_
              refine x_val rfl rfl rfl (v_assign rfl) ?_
              refine x_end ?_
              refine t_norm ?_
              refine w_ret ?_
              refine b_ret ?_
              refine t_ret ?_
              have hq : ¬((x.fund ≠ a.fund ∨ ¬(x.src = a.src ∧ x.num = a.num)) ∨ a.copies > x.copies) := by
                rintro ((h | h) | h)
                · exact h hc45.1.1
                · have h2 := hc45.1.2; rw [hb58] at h2; exact h (by simpa using h2)
                · have h2 := hc45.2; omega
              refine ret1 rfl rfl (fun w' hm' => ?_)
              rw [show (answerP ⟨f, tol, some (x, first)⟩ a 0) = (61, ⟨f, tol, some (x, first)⟩) from by unfold answerP; rw [if_neg (by decide), show lookO ⟨f, tol, some (x, first)⟩ a.id = some (x, first) from by unfold lookO; rw [if_pos ha7]]; dsimp only; rw [if_neg (by omega), if_neg hq, if_pos (by simpa using hc68)]]
              exact ⟨rfl, (esO, ckO), hO, hm'.less ((List.sublist_cons_self _ _).trans (List.sublist_cons_self _ _)) (fun _ h => h)⟩
            · simp only [hb75, hb74, decide_eq_true_eq, decide_eq_false_iff_not, Bool.and_eq_true, Bool.or_eq_true, Bool.and_eq_false_iff, Bool.or_eq_false_iff, Bool.not_eq_true', Bool.not_eq_false', ne_eq, Decidable.not_not] at hc68
              refine w_skip ?_
              refine b_norm ?_
              refine t_norm ?_
              refine w_seq ?_
              refine rg_text ?_
              refine x_val rfl rfl rfl (v_load_blk (e := 54) (fz := (0, 0)) (cs := (orC10 x first).toArray) Tryz.underlying54 rfl rfl (.head _) sz54) ?_
              refine x_callv rfl rfl rfl Tryz.func24 (by kernel_rfl) rfl (fun w1 hw1 => c_res x first w1 hx) ?_
              refine x_val rfl rfl rfl (v_assign rfl) ?_
              refine x_end ?_
              refine t_norm ?_
              refine w_seq ?_
              refine rg_inv ([(p5, Obj.cells a.cells.toArray 35)]) 10 (.flt 0 (.flt 1 (.flt 2 (.flt 3 (.flt 4 (.flt 5 (.gr 6 (.flt 7 (.flt 8 (.gr 9 .done .nil))) .nil))))))) (.cons _ (List.Sublist.cons_cons _ (List.nil_sublist _))) (by kernel_rfl) (by kernel_rfl) ?_
              refine j_val rfl rfl (v_fieldAddr (off' := 4) Tryz.underlying35 rfl sz3 (by decide) rfl rfl) ?_
              refine j_val rfl rfl (v_load Tryz.underlying3 rfl rfl (at_ownL (vs := a.cells) (.head _) rfl)) ?_
              refine j_val rfl rfl (v_fieldAddr (off' := 5) Tryz.underlying35 rfl sz3 (by decide) rfl rfl) ?_
              refine j_val rfl rfl (v_load Tryz.underlying3 rfl rfl (at_ownL (vs := a.cells) (.head _) rfl)) ?_
              refine j_val rfl rfl (v_fieldAddr (off' := 0) Tryz.underlying54 rfl sz35 (by decide) rfl rfl) ?_
              refine j_val rfl rfl (v_fieldAddr (off' := 6) Tryz.underlying35 rfl sz3 (by decide) rfl rfl) ?_
              refine j_gr ?_ j_nil
              refine x_store (cs := orC10 x first) (off := 6) (e := 54) (l2 := (p5, Obj.cells a.cells.toArray 35) :: (pO, Obj.cells (orC pF tol mO).toArray 58) :: (mO, Obj.map esO ckO) :: (pX, Obj.cells (fxC f).toArray 88) :: (mF, Obj.map esF ckF) :: (pF, Obj.cells (fnC mF money).toArray 83) :: L) [] rfl rfl rfl rfl sz3 rfl (by show 7 ≤ 10; decide) ?_
              refine x_end ?_
              refine j_end (.cons _ (List.Sublist.cons_cons _ (List.nil_sublist _))) ?_
              refine j_val rfl rfl (v_fieldAddr (off' := 0) Tryz.underlying54 rfl sz35 (by decide) rfl rfl) ?_
              refine j_val rfl rfl (v_fieldAddr (off' := 5) Tryz.underlying35 rfl sz3 (by decide) rfl rfl) ?_
              refine j_gr ?_ j_nil
              refine x_store (cs := orC10 { x with prom := a.copies } first) (off := 5) (e := 54) (l2 := (p5, Obj.cells a.cells.toArray 35) :: (pO, Obj.cells (orC pF tol mO).toArray 58) :: (mO, Obj.map esO ckO) :: (pX, Obj.cells (fxC f).toArray 88) :: (mF, Obj.map esF ckF) :: (pF, Obj.cells (fnC mF money).toArray 83) :: L) [] rfl rfl rfl rfl sz3 rfl (by show 6 ≤ 10; decide) ?_
              refine x_end ?_
              refine j_end (.cons _ (List.Sublist.cons_cons _ (List.nil_sublist _))) ?_
              refine j_done ?_
              refine x_end ?_
              refine t_norm ?_
              refine w_seq_cut (σ := Int × FSt) (fun r21 => r21 = (postA f (resP x) (resP (answO x a)))) (fun r21 => [(0, Value.pointer (some ⟨pO, 0, none⟩)), (6, Value.int .i64 r21.1), (7, Value.pointer (some ⟨p7, 0, none⟩))]) (fun r21 => (p7, Obj.cells (orC10 (answO x a) first).toArray 54) :: (p5, Obj.cells a.cells.toArray 35) :: (pO, Obj.cells (orC pF tol mO).toArray 58) :: (mO, Obj.map esO ckO) :: (pX, Obj.cells (fxC r21.2).toArray 88) :: (mF, Obj.map esF ckF) :: (pF, Obj.cells (fnC mF money).toArray 83) :: L) (fun r21 => ro) ?_ ?_
              · refine w_seq ?_
                refine w_state _ ((p7, Obj.cells (orC10 (answO x a) first).toArray 54) :: (p5, Obj.cells a.cells.toArray 35) :: (pO, Obj.cells (orC pF tol mO).toArray 58) :: (mO, Obj.map esO ckO) :: (pX, Obj.cells (fxC f).toArray 88) :: (mF, Obj.map esF ckF) :: (pF, Obj.cells (fnC mF money).toArray 83) :: L) _ ?_
                refine rg_text ?_
                refine x_val rfl rfl rfl (v_load_blk (e := 54) (fz := (0, 0)) (cs := (orC10 (answO x a) first).toArray) Tryz.underlying54 rfl rfl (.head _) sz54) ?_
                refine x_callv rfl rfl rfl Tryz.func24 (by kernel_rfl) rfl (fun w1 hw1 => c_res (answO x a) first w1 hy) ?_
                refine x_val rfl rfl rfl (v_assign rfl) ?_
                refine x_end ?_
                refine t_norm ?_
                refine w_seq ?_
                refine rg_text ?_
                refine x_val rfl rfl rfl (v_move rfl) ?_
                refine x_val rfl rfl rfl (v_move rfl) ?_
                refine x_bool rfl rfl rfl (v_gtr rfl rfl) ?_
                intro b90 hb90
                refine x_end ?_
                refine t_norm ?_
                refine w_cond rfl (fun hc90 => ?_) (fun hc90 => ?_)
                · simp only [hb90, decide_eq_true_eq, decide_eq_false_iff_not, Bool.and_eq_true, Bool.or_eq_true, Bool.and_eq_false_iff, Bool.or_eq_false_iff, Bool.not_eq_true', Bool.not_eq_false', ne_eq, Decidable.not_not] at hc90
                  refine rg_draw 10 [(true, 0), (true, 1), (true, 2), (true, 3), (true, 4), (true, 5), (true, 6), (true, 7), (true, 8), (true, 9)] (by kernel_rfl) (by kernel_rfl) ?_
                  refine x_val rfl rfl rfl (v_move rfl) ?_
                  refine x_val rfl rfl rfl (v_nilCheck rfl) ?_
                  refine x_val rfl rfl rfl (v_fieldAddr (off' := 0) Tryz.underlying58 rfl sz26 (by decide) rfl rfl) ?_
                  refine x_val rfl rfl rfl (v_load Tryz.underlying26 rfl rfl (at_ownL (vs := orC pF tol mO) (.tail _ (.tail _ (.head _))) rfl)) ?_
                  refine x_val rfl rfl rfl (v_fieldAddr (off' := 0) Tryz.underlying54 rfl sz35 (by decide) rfl rfl) ?_
                  refine x_val rfl rfl rfl (v_fieldAddr (off' := 1) Tryz.underlying35 rfl sz3 (by decide) rfl rfl) ?_
                  refine x_val rfl rfl rfl (v_load Tryz.underlying3 rfl rfl (at_ownL (vs := orC10 (answO x a) first) (.head _) (by show some (Value.int .i64 x.fund) = some (Value.int .i64 2); rw [o12]))) ?_
                  refine x_val rfl rfl rfl (v_move rfl) ?_
                  refine x_val rfl rfl rfl (v_move rfl) ?_
                  refine x_val rfl rfl rfl (v_subi rfl rfl rfl (by first | omega | (dsimp only; omega))) ?_
                  refine x_turnf (τ := Unit) (v := Value.int .i64 (encP f ((resP (answO x a)) - (resP x))).1) (fun _ => True) (fun _ => (p7, Obj.cells (orC10 (answO x a) first).toArray 54) :: (p5, Obj.cells a.cells.toArray 35) :: (pO, Obj.cells (orC pF tol mO).toArray 58) :: (mO, Obj.map esO ckO) :: (pX, Obj.cells (fxC (encP f ((resP (answO x a)) - (resP x))).2).toArray 88) :: (mF, Obj.map esF ckF) :: (pF, Obj.cells (fnC mF money).toArray 83) :: L) rfl rfl Tryz.func25 (by kernel_rfl) rfl (fun w1 hw1 => c_Enc (l1 := [(p7, Obj.cells (orC10 (answO x a) first).toArray 54), (p5, Obj.cells a.cells.toArray 35), (pO, Obj.cells (orC pF tol mO).toArray 58), (mO, Obj.map esO ckO)]) hw1 hF hok ((resP (answO x a)) - (resP x))) ?_
                  intro _ _
                  refine x_val rfl rfl rfl (v_assign rfl) ?_
                  refine x_end ?_
                  exact c_norm (encP f ((resP (answO x a)) - (resP x))) ((if_pos (by omega) : (postA f (resP x) (resP (answO x a))) = encP f ((resP (answO x a)) - (resP x))).symm) (by repeat (first | exact Sub.nil | refine Sub.cons rfl ?_)) (fun _ h => h)
                · simp only [hb90, decide_eq_true_eq, decide_eq_false_iff_not, Bool.and_eq_true, Bool.or_eq_true, Bool.and_eq_false_iff, Bool.or_eq_false_iff, Bool.not_eq_true', Bool.not_eq_false', ne_eq, Decidable.not_not] at hc90
                  refine rg_draw 10 [(true, 0), (true, 1), (true, 2), (true, 3), (true, 4), (true, 5), (true, 6), (true, 7), (true, 8), (true, 9)] (by kernel_rfl) (by kernel_rfl) ?_
                  refine x_val rfl rfl rfl (v_move rfl) ?_
                  refine x_val rfl rfl rfl (v_nilCheck rfl) ?_
                  refine x_val rfl rfl rfl (v_fieldAddr (off' := 0) Tryz.underlying58 rfl sz26 (by decide) rfl rfl) ?_
                  refine x_val rfl rfl rfl (v_load Tryz.underlying26 rfl rfl (at_ownL (vs := orC pF tol mO) (.tail _ (.tail _ (.head _))) rfl)) ?_
                  refine x_val rfl rfl rfl (v_fieldAddr (off' := 0) Tryz.underlying54 rfl sz35 (by decide) rfl rfl) ?_
                  refine x_val rfl rfl rfl (v_fieldAddr (off' := 1) Tryz.underlying35 rfl sz3 (by decide) rfl rfl) ?_
                  refine x_val rfl rfl rfl (v_load Tryz.underlying3 rfl rfl (at_ownL (vs := orC10 (answO x a) first) (.head _) (by show some (Value.int .i64 x.fund) = some (Value.int .i64 2); rw [o12]))) ?_
                  refine x_val rfl rfl rfl (v_move rfl) ?_
                  refine x_val rfl rfl rfl (v_move rfl) ?_
                  refine x_val rfl rfl rfl (v_subi rfl rfl rfl (by first | omega | (dsimp only; omega))) ?_
                  refine x_turnf (τ := Unit) (v := Value.int .i64 (relP f ((resP x) - (resP (answO x a)))).1) (fun _ => True) (fun _ => (p7, Obj.cells (orC10 (answO x a) first).toArray 54) :: (p5, Obj.cells a.cells.toArray 35) :: (pO, Obj.cells (orC pF tol mO).toArray 58) :: (mO, Obj.map esO ckO) :: (pX, Obj.cells (fxC (relP f ((resP x) - (resP (answO x a)))).2).toArray 88) :: (mF, Obj.map esF ckF) :: (pF, Obj.cells (fnC mF money).toArray 83) :: L) rfl rfl Tryz.func26 (by kernel_rfl) rfl (fun w1 hw1 => c_Rel (l1 := [(p7, Obj.cells (orC10 (answO x a) first).toArray 54), (p5, Obj.cells a.cells.toArray 35), (pO, Obj.cells (orC pF tol mO).toArray 58), (mO, Obj.map esO ckO)]) hw1 hF hok ((resP x) - (resP (answO x a)))) ?_
                  intro _ _
                  refine x_val rfl rfl rfl (v_assign rfl) ?_
                  refine x_end ?_
                  exact c_norm (relP f ((resP x) - (resP (answO x a)))) ((if_neg (by omega) : (postA f (resP x) (resP (answO x a))) = relP f ((resP x) - (resP (answO x a)))).symm) (by repeat (first | exact Sub.nil | refine Sub.cons rfl ?_)) (fun _ h => h)
              · rintro r21 hq21
                refine w_state ([(0, Value.pointer (some ⟨pO, 0, none⟩)), (6, Value.int .i64 r21.1), (7, Value.pointer (some ⟨p7, 0, none⟩))]) ((p7, Obj.cells (orC10 (answO x a) first).toArray 54) :: (p5, Obj.cells a.cells.toArray 35) :: (pO, Obj.cells (orC pF tol mO).toArray 58) :: (mO, Obj.map esO ckO) :: (pX, Obj.cells (fxC r21.2).toArray 88) :: (mF, Obj.map esF ckF) :: (pF, Obj.cells (fnC mF money).toArray 83) :: L) (ro) ?_
                subst hq21
                refine w_seq ?_
                refine w_seq ?_
                refine rg_text ?_
                refine x_val rfl rfl rfl (v_move rfl) ?_
                refine x_bool rfl rfl rfl (v_eql rfl rfl) ?_
                intro b114 hb114
                refine x_end ?_
                refine t_norm ?_
                refine w_cond rfl (fun hc114 => ?_) (fun hc114 => ?_)
                · simp only [hb114, decide_eq_true_eq, decide_eq_false_iff_not, Bool.and_eq_true, Bool.or_eq_true, Bool.and_eq_false_iff, Bool.or_eq_false_iff, Bool.not_eq_true', Bool.not_eq_false', ne_eq, Decidable.not_not] at hc114
                  refine rg_text ?_
                  refine x_val rfl rfl rfl (v_move rfl) ?_
                  refine x_val rfl rfl rfl (v_load_blk (e := 54) (fz := (0, 0)) (cs := (orC10 (answO x a) first).toArray) Tryz.underlying54 rfl rfl (.head _) sz54) ?_
                  refine x_turnf (τ := Array MapEntry × Nat) (v := Value.tuple #[]) (fun q => MapF Tryz.prog 3 q.1 (fO (some ((answO x a), first)))) (fun q => [(p7, Obj.cells (orC10 (answO x a) first).toArray 54), (p5, Obj.cells a.cells.toArray 35)] ++ (pO, Obj.cells (orC pF tol mO).toArray 58) :: (mO, Obj.map q.1 q.2) :: (pX, Obj.cells (fxC (postA f (resP x) (resP (answO x a))).2).toArray 88) :: (mF, Obj.map esF ckF) :: (pF, Obj.cells (fnC mF money).toArray 83) :: L) rfl rfl Tryz.func27 (by kernel_rfl) rfl (fun w1 hw1 => c_Oput (l1 := [(p7, Obj.cells (orC10 (answO x a) first).toArray 54), (p5, Obj.cells a.cells.toArray 35)]) (answO x a) first hw1 hO o11) ?_
                  intro q117 hq117
                  refine x_end ?_
                  refine t_norm ?_
                  refine w_seq ?_
                  refine rg_text ?_
                  refine x_val rfl rfl rfl (v_move rfl) ?_
                  refine x_val rfl rfl rfl (v_assign rfl) ?_
                  refine x_end ?_
                  refine t_norm ?_
                  refine w_ret ?_
                  have hq : ¬((x.fund ≠ a.fund ∨ ¬(x.src = a.src ∧ x.num = a.num)) ∨ a.copies > x.copies) := by
                    rintro ((h | h) | h)
                    · exact h hc45.1.1
                    · have h2 := hc45.1.2; rw [hb58] at h2; exact h (by simpa using h2)
                    · have h2 := hc45.2; omega
                  refine ret1 rfl rfl (fun w' hm' => ?_)
                  rw [show (answerP ⟨f, tol, some (x, first)⟩ a 0) = (0, ⟨(postA f (resP x) (resP (answO x a))).2, tol, some ((answO x a), first)⟩) from by unfold answerP; rw [if_neg (by decide), show lookO ⟨f, tol, some (x, first)⟩ a.id = some (x, first) from by unfold lookO; rw [if_pos ha7]]; dsimp only; rw [if_neg (by omega), if_neg hq, if_neg (by simpa using hc68), if_neg (by simpa using hc114)]]
                  exact ⟨by rw [hc114], q117, hq117, hm'.less ((List.sublist_cons_self _ _).trans (List.sublist_cons_self _ _)) (fun _ h => h)⟩
                · simp only [hb114, decide_eq_true_eq, decide_eq_false_iff_not, Bool.and_eq_true, Bool.or_eq_true, Bool.and_eq_false_iff, Bool.or_eq_false_iff, Bool.not_eq_true', Bool.not_eq_false', ne_eq, Decidable.not_not] at hc114
                  refine w_skip ?_
                  refine t_norm ?_
                  refine w_seq ?_
                  refine rg_text ?_
                  refine x_val rfl rfl rfl (v_move rfl) ?_
                  refine x_val rfl rfl rfl (v_assign rfl) ?_
                  refine x_end ?_
                  refine t_norm ?_
                  refine w_ret ?_
                  have hq : ¬((x.fund ≠ a.fund ∨ ¬(x.src = a.src ∧ x.num = a.num)) ∨ a.copies > x.copies) := by
                    rintro ((h | h) | h)
                    · exact h hc45.1.1
                    · have h2 := hc45.1.2; rw [hb58] at h2; exact h (by simpa using h2)
                    · have h2 := hc45.2; omega
                  refine ret1 rfl rfl (fun w' hm' => ?_)
                  rw [postA_f (by simpa using hc114)] at hm'
                  rw [show (answerP ⟨f, tol, some (x, first)⟩ a 0) = ((postA f (resP x) (resP (answO x a))).1, ⟨f, tol, some (x, first)⟩) from by unfold answerP; rw [if_neg (by decide), show lookO ⟨f, tol, some (x, first)⟩ a.id = some (x, first) from by unfold lookO; rw [if_pos ha7]]; dsimp only; rw [if_neg (by omega), if_neg hq, if_neg (by simpa using hc68), if_pos (by simpa using hc114)]]
                  exact ⟨rfl, (esO, ckO), hO, hm'.less ((List.sublist_cons_self _ _).trans (List.sublist_cons_self _ _)) (fun _ h => h)⟩

end Go.Proofs.YtdampedpgbnihaaGreatDoor

/-
  DERIVED: THE SHELF's CONTRACTS AT THIS DUMP, IN PLAIN WORDS (tools/lay-plain.mjs out of 'TryzClone.lean', which tools/lay-shelf.mjs wrote): THE SAME DECLARATIONS UNDER THE SAME NAMES: 'import', 'namespace', 'open', 'def', 'theorem' AND NOTHING ELSE: no command of the shelf's: FOR A HAND-IN. Each laying: the table of numbers ('.._ren') and one theorem, a field a fact of the dump's own or the kernel's comparison; each contract: ONE APPLICATION.
-/
namespace Go.Proofs
open Go.Shelf
def Tryz.lclone_ren : Go.Shelf.Ren := ⟨fun | 5 => 33 | 7 => 62 | n => n, fun | 23 => 56 | 25 => 3 | 3 => 54 | 4 => 4 | 20 => 20 | n => n, fun | n => n⟩
theorem Tryz.lclone : Go.Proofs.SlLaysW.n5 Tryz.prog Tryz.lclone_ren := {
  mixed := by kernel_rfl
  f5 := ⟨Tryz.f33.name, by decide, Tryz.func33.trans (congrArg some (by kernel_rfl))⟩
  f7 := Tryz.func62.trans (congrArg some (by kernel_rfl))
  t4 := Tryz.underlying4
  a4 := Tryz.isAgg4
  z4 := Tryz.sizeOf4
  v4 := Tryz.zeroValue4
  t20 := Tryz.underlying20
  a20 := Tryz.isAgg20
  z20 := Tryz.sizeOf20
  v20 := Tryz.zeroValue20
  t23 := Tryz.underlying56
  a23 := Tryz.isAgg56
  z23 := Tryz.sizeOf56
  v23 := Tryz.zeroValue56 }
theorem Tryz.maps_Clone_at (b : Nat) (es : Array MapEntry) (clock : Nat) (w : World) (hb : w.heap[b]? = some (.map es clock)) :
    Calls Tryz.prog 33 #[.map (some b)] w fun e w' => e = .returned (.map (some w.heap.size)) ∧ w' = w.alloc (.map es clock) := AnyW.maps_Clone Tryz.lclone b es clock w hb
end Go.Proofs

namespace Go.Proofs.YtdampedpgbnihaaGreatDoor
open Go.RowKit Go.PK
set_option linter.unusedVariables false
set_option linter.unusedSimpArgs false
theorem ln_rng {c p q : Int} (h1 : 1 ≤ c ∧ c ≤ 9999) (h2 : 0 ≤ p ∧ p ≤ 999999999) (h3 : 0 ≤ q ∧ q ≤ 999999999) : (0 ≤ c * p ∧ c * p ≤ 9998999990001) ∧ (0 ≤ c * q ∧ c * q ≤ 9998999990001) ∧ c * (p - q) = c * p - c * q := by
  have a1 : c * p ≤ 9999 * 999999999 := Int.mul_le_mul h1.2 h2.2 h2.1 (by decide)
  have a2 : c * q ≤ 9999 * 999999999 := Int.mul_le_mul h1.2 h3.2 h3.1 (by decide)
  have a3 := Int.mul_nonneg (show 0 ≤ c by omega) h2.1
  have a4 := Int.mul_nonneg (show 0 ≤ c by omega) h3.1
  exact ⟨⟨a3, by omega⟩, ⟨a4, by omega⟩, Int.mul_sub c p q⟩
set_option maxHeartbeats 4000000 in
set_option maxRecDepth 100000 in
theorem c_Pay {w : World} {L : List (Nat × Obj)} {ro : List Snap} {pX mF pF pO mO ckF ckO : Nat} {esF esO : Array MapEntry} {money tol first : Int} {f : FSt} {x : PK.Ord} (hm : Mem w ((pO, Obj.cells (orC pF tol mO).toArray 58) :: (mO, Obj.map esO ckO) :: (pX, Obj.cells (fxC f).toArray 88) :: (mF, Obj.map esF ckF) :: (pF, Obj.cells (fnC mF money).toArray 83) :: L) ro) (hF : MapF Tryz.prog 3 esF (fF pX)) (hO : MapF Tryz.prog 3 esO (fO (some (x, first)))) (hok : fundOK f) (htol : 0 ≤ tol ∧ tol ≤ 1000000) (hx : ordR x) (hfi : 0 ≤ first ∧ first ≤ 999999999) {ws : World} (hws : (ws, fun _ => True) ∈ ro) (hL : LD ws) (s : ByteArray) (hs : s.size ≤ 200000000) (h0 : (parR s).2.2 = 0) (hbig : bigO (parR s).1) (ln : PK.Ord) (hrd : rdI (parR s).1 = ([ln], 0)) (hl7 : ln.id = 7) (hl1 : 0 ≤ ln.price ∧ ln.price ≤ 999999999) (hl2 : 1 ≤ ln.copies ∧ ln.copies ≤ 9999) :
    Calls Tryz.prog 14 #[.pointer (some ⟨pO, 0, none⟩), .string s] w fun e w' => e = .returned (.int .i64 (invoiceP ⟨f, tol, some (x, first)⟩ ln).1) ∧ ∃ q : Nat × Array MapEntry × Nat, MapF Tryz.prog 3 q.2.1 (fO ((invoiceP ⟨f, tol, some (x, first)⟩ ln).2.x)) ∧ Mem w' ((pO, Obj.cells (orC pF tol q.1).toArray 58) :: (q.1, Obj.map q.2.1 q.2.2) :: (pX, Obj.cells (fxC (invoiceP ⟨f, tol, some (x, first)⟩ ln).2.f).toArray 88) :: (mF, Obj.map esF ckF) :: (pF, Obj.cells (fnC mF money).toArray 83) :: L) ro := by
  obtain ⟨⟨o1, o2⟩, ⟨o3, o4⟩, ⟨o5, o6⟩, ⟨o7, o8⟩, ⟨o9, o10⟩, o11, o12, o13, o14⟩ := id hx
  obtain ⟨⟨k1, k2⟩, ⟨k3, k4⟩, k5⟩ := ln_rng hl2 ⟨o1, o2⟩ hl1
  obtain ⟨ok1, ok2, ok3, ok4⟩ := id hok
  have hfr : 0 ≤ f.free ∧ f.free ≤ 1000000000000000 := by unfold FSt.free; omega
  refine enter_in hm (vs := [.pointer (some ⟨pO, 0, none⟩), .string s]) Tryz.func14 rfl Tryz.ntmps14 rfl ?_
  refine w_seq ?_
  refine rg_text ?_
  refine x_val rfl rfl rfl (v_assign rfl) ?_
  refine x_end ?_
  refine t_norm ?_
  refine w_seq ?_
  refine w_seq ?_
  refine rg_text ?_
  refine x_val rfl rfl rfl (v_move rfl) ?_
  refine x_val (v := Value.bool false) rfl rfl rfl (v_pnil (o := some ⟨pO, 0, none⟩) Tryz.underlying25 rfl rfl) ?_
  refine x_end ?_
  refine t_norm ?_
  refine w_cond rfl (fun hc20 => ?_) (fun hc20 => ?_)
  · cases hc20
  · skip
    refine w_skip ?_
    refine t_norm ?_
    refine w_seq ?_
    refine rg_text ?_
    refine x_val rfl rfl rfl (v_move rfl) ?_
    refine x_call (R := fun v wa wb => ∃ A1 c1, v = .tuple #[.slice A1 1 c1, .int .i64 0] ∧ sliceRd tyOrd (fun b => wa.heap.size ≤ b) wb (.slice A1 1 c1) [ln]) rfl rfl rfl Tryz.func31 (by kernel_rfl) rfl (fun w1 hw1 => (c_read2 s w1 hs h0 hbig (hL.later (hw1.base (by first | exact hws | exact .tail _ hws | exact .tail _ (.tail _ hws) | exact .tail _ (.tail _ (.tail _ hws)))))).mono fun e w2 ⟨q, h1, h2, h3⟩ => by rw [hrd] at h1 h3; obtain ⟨A1, c1, rfl, _⟩ := id h3; exact ⟨_, h1, h2, A1, c1, rfl, h3⟩) ?_
    intro v23 wa23 wb23 hm23 hl23 hR23
    obtain ⟨A23, c23, rfl, hr23⟩ := hR23
    obtain ⟨lb, lo, hlA, hlD, hlc, hlok⟩ := ord_at hr23 (k := 0) Nat.zero_lt_one
    refine x_val rfl rfl rfl (v_move rfl) ?_
    refine x_val rfl rfl rfl (v_extract rfl rfl) ?_
    refine x_val rfl rfl rfl (v_extract rfl rfl) ?_
    refine x_val rfl rfl rfl (v_assign rfl) ?_
    refine x_val rfl rfl rfl (v_assign rfl) ?_
    refine x_end ?_
    refine t_norm ?_
    refine w_seq ?_
    refine w_seq ?_
    refine rg_text ?_
    refine x_val rfl rfl rfl (v_move rfl) ?_
    refine x_bool rfl rfl rfl (v_neq rfl rfl) ?_
    intro b27 hb27
    refine x_end ?_
    refine t_norm ?_
    refine w_cond rfl (fun hc27 => ?_) (fun hc27 => ?_)
    · exfalso
      rw [hb27] at hc27
      revert hc27; simp
    · simp only [hb27, decide_eq_true_eq, decide_eq_false_iff_not, Bool.and_eq_true, Bool.or_eq_true, Bool.and_eq_false_iff, Bool.or_eq_false_iff, Bool.not_eq_true', Bool.not_eq_false', ne_eq, Decidable.not_not] at hc27
      refine w_skip ?_
      refine t_norm ?_
      refine w_seq ?_
      refine rg_text ?_
      refine x_val rfl rfl rfl (v_move rfl) ?_
      refine x_val rfl rfl rfl (v_nilCheck rfl) ?_
      refine x_val rfl rfl rfl (v_fieldAddr (off' := 2) Tryz.underlying58 rfl sz56 (by decide) rfl rfl) ?_
      refine x_val rfl rfl rfl (v_load Tryz.underlying56 rfl rfl (at_ownL (vs := orC pF tol mO) (.head _) rfl)) ?_
      refine x_turn_n (fun (b : Nat) v _ _ => v = .map (some b)) (fun b => (b, Obj.map esO ckO) :: (pO, Obj.cells (orC pF tol mO).toArray 58) :: (mO, Obj.map esO ckO) :: (pX, Obj.cells (fxC f).toArray 88) :: (mF, Obj.map esF ckF) :: (pF, Obj.cells (fnC mF money).toArray 83) :: L) rfl rfl Tryz.func33 (by kernel_rfl) rfl (fun w1 hw1 => (Tryz.maps_Clone_at mO esO ckO w1 (hw1.own_at _ (.tail _ (.head _)))).mono fun e w2 ⟨h1, h2⟩ => ⟨_, h1, w1.heap.size, rfl, by rw [h2]; exact hw1.new _⟩) ?_
      rintro _ pN wa33 wb33 hm33 rfl _
      refine x_val rfl rfl rfl (v_assign rfl) ?_
      refine x_end ?_
      refine t_norm ?_
      refine w_seq ?_
      refine rg_text ?_
      refine x_makeMap rfl rfl rfl ?_
      intro p34
      refine x_val rfl rfl rfl (v_assign rfl) ?_
      refine x_end ?_
      refine t_norm ?_
      refine w_seq ?_
      refine w_seq ?_
      refine rg_text ?_
      refine x_val rfl rfl rfl (v_move rfl) ?_
      refine x_val rfl rfl rfl (v_len_slice Tryz.underlying70 rfl) ?_
      refine x_val rfl rfl rfl (v_move rfl) ?_
      refine x_end ?_
      refine t_norm ?_
      refine w_block ?_
      refine w_loop (σ := Nat × Array MapEntry × Nat × Array MapEntry × Nat) (fun z => z.1 ≤ 1 ∧ (z.1 = 0 → MapF Tryz.prog 3 z.2.1 (fun _ => none) ∧ MapF Tryz.prog 3 z.2.2.2.1 (fO (some (x, first)))) ∧ (z.1 = 1 → MapF Tryz.prog 3 z.2.2.2.1 (fO (some ({ x with paid := x.paid + ln.copies }, first))) ∧ (checkP tol ln (some (x, first)) = 0 ∧ ¬f.free + ln.copies * (x.price - ln.price) < 0))) (fun z => [(0, Value.pointer (some ⟨pO, 0, none⟩)), (5, Value.slice A23 1 c23), (7, Value.map (some pN)), (8, Value.map (some p34)), (35, Value.slice A23 1 c23), (36, Value.int .i64 1), (37, Value.int .i64 (z.1 : Nat))]) (fun z => (p34, Obj.map z.2.1 z.2.2.1) :: (pN, Obj.map z.2.2.2.1 z.2.2.2.2) :: (pO, Obj.cells (orC pF tol mO).toArray 58) :: (mO, Obj.map esO ckO) :: (pX, Obj.cells (fxC f).toArray 88) :: (mF, Obj.map esF ckF) :: (pF, Obj.cells (fnC mF money).toArray 83) :: L) (fun z => (wb33, notOwn ((pN, Obj.map esO ckO) :: (pO, Obj.cells (orC pF tol mO).toArray 58) :: (mO, Obj.map esO ckO) :: (pX, Obj.cells (fxC f).toArray 88) :: (mF, Obj.map esF ckF) :: (pF, Obj.cells (fnC mF money).toArray 83) :: L)) :: (wb23, notOwn ((pO, Obj.cells (orC pF tol mO).toArray 58) :: (mO, Obj.map esO ckO) :: (pX, Obj.cells (fxC f).toArray 88) :: (mF, Obj.map esF ckF) :: (pF, Obj.cells (fnC mF money).toArray 83) :: L)) :: ro) (fun z => 1 - z.1) ((0, #[], 0, esO, ckO)) (⟨Nat.zero_le _, fun _ => ⟨MapF.empty, hO⟩, fun h => by cases h⟩) (l_start (by repeat (first | exact Sub.nil | refine Sub.cons rfl ?_)) (fun _ h => h)) ?_
      rintro ⟨k, es8, ck8, esN, ckN⟩ ⟨hk, hI0, hI1⟩
      refine w_state ([(0, Value.pointer (some ⟨pO, 0, none⟩)), (5, Value.slice A23 1 c23), (7, Value.map (some pN)), (8, Value.map (some p34)), (35, Value.slice A23 1 c23), (36, Value.int .i64 1), (37, Value.int .i64 (k : Nat))]) ((p34, Obj.map es8 ck8) :: (pN, Obj.map esN ckN) :: (pO, Obj.cells (orC pF tol mO).toArray 58) :: (mO, Obj.map esO ckO) :: (pX, Obj.cells (fxC f).toArray 88) :: (mF, Obj.map esF ckF) :: (pF, Obj.cells (fnC mF money).toArray 83) :: L) ((wb33, notOwn ((pN, Obj.map esO ckO) :: (pO, Obj.cells (orC pF tol mO).toArray 58) :: (mO, Obj.map esO ckO) :: (pX, Obj.cells (fxC f).toArray 88) :: (mF, Obj.map esF ckF) :: (pF, Obj.cells (fnC mF money).toArray 83) :: L)) :: (wb23, notOwn ((pO, Obj.cells (orC pF tol mO).toArray 58) :: (mO, Obj.map esO ckO) :: (pX, Obj.cells (fxC f).toArray 88) :: (mF, Obj.map esF ckF) :: (pF, Obj.cells (fnC mF money).toArray 83) :: L)) :: ro) ?_
      dsimp only at hk hI0 hI1
      refine w_seq ?_
      refine rg_text ?_
      refine x_bool rfl rfl rfl (v_lss rfl rfl) ?_
      intro b38 hb38
      refine x_end ?_
      refine t_norm ?_
      refine w_seq ?_
      refine w_cond rfl (fun hc38 => ?_) (fun hc38 => ?_)
      · simp only [hb38, decide_eq_true_eq, decide_eq_false_iff_not, Bool.and_eq_true, Bool.or_eq_true, Bool.and_eq_false_iff, Bool.or_eq_false_iff, Bool.not_eq_true', Bool.not_eq_false', ne_eq, Decidable.not_not] at hc38
        have hk0 : k = 0 := by omega
        subst hk0
        obtain ⟨hM8, hMN⟩ := hI0 rfl
        refine w_skip ?_
        refine t_norm ?_
        refine w_seq ?_
        refine w_block ?_
        refine w_seq ?_
        refine rg_text ?_
        refine x_val rfl rfl rfl (v_indexAddr Tryz.underlying70 sz35 (congrArg (fun A => some (Value.slice A 1 c23)) hlA) rfl (by decide) rfl) ?_
        refine x_val rfl rfl rfl (v_loadN (vs := ln.cells) Tryz.underlying35 rfl sz35 rfl (fun i hi => at_ro (.tail _ (.head _)) (fun q hq e => by have := hm23.lt hq; omega) (hlc i hi))) ?_
        refine x_alloc rfl rfl rfl zr35 ?_
        intro p10
        refine x_store0 [] rfl rfl rfl rfl sz35 rfl rfl ?_
        refine x_end ?_
        refine t_norm ?_
        refine w_seq ?_
        refine rg_text ?_
        refine x_val rfl rfl rfl (v_move rfl) ?_
        refine x_val rfl rfl rfl (v_fieldAddr (off' := 0) Tryz.underlying35 rfl sz3 (by decide) rfl rfl) ?_
        refine x_val (v := Value.int .i64 7) rfl rfl rfl (v_load Tryz.underlying3 rfl rfl (at_ownL (vs := ln.cells) (.head _) (by show some (Value.int .i64 ln.id) = _; rw [hl7]))) ?_
        refine x_val (v := Value.tuple #[orV x first, .bool true]) rfl rfl rfl (v_lookup2H Tryz.underlying56 (Maps.int_keyed Tryz.underlying3) zr54 rfl rfl (Maps.keyOf_int_mk Tryz.underlying3 (by decide)) (map_own (.tail _ (.tail _ (.head _)))) hMN (by rw [fO_at]; rfl) (by rw [fO_at]; rfl)) ?_
        refine x_val rfl rfl rfl (v_move rfl) ?_
        refine x_val rfl rfl rfl (v_extract rfl rfl) ?_
        refine x_bool rfl rfl rfl (v_extract rfl rfl) ?_
        intro b47 hb47
        refine x_alloc rfl rfl rfl zr54 ?_
        intro p11
        refine x_store0 [] rfl rfl rfl rfl sz54 rfl rfl ?_
        refine x_val rfl rfl rfl (v_assign rfl) ?_
        refine x_end ?_
        refine t_norm ?_
        refine w_seq ?_
        refine w_seq ?_
        refine rg_text ?_
        refine x_val rfl rfl rfl (v_move rfl) ?_
        refine x_val rfl rfl rfl (v_load_blk (e := 35) (fz := (0, 0)) (cs := ln.cells.toArray) Tryz.underlying35 rfl rfl (.tail _ (.head _)) sz35) ?_
        refine x_val rfl rfl rfl (v_load_blk (e := 54) (fz := (0, 0)) (cs := (orC10 x first).toArray) Tryz.underlying54 rfl rfl (.head _) sz54) ?_
        refine x_val rfl rfl rfl (v_move rfl) ?_
        obtain rfl : b47 = true := hb47
        refine x_callv (vs := [.pointer (some ⟨pO, 0, none⟩), .agg ln.cells.toArray, .agg (orC10 x first).toArray, .bool true]) (v := Value.int .i64 (checkP tol ln (some (x, first)))) rfl rfl rfl Tryz.func34 (by kernel_rfl) rfl (fun w1 hw1 => by
          have h1 : w1.cell? ⟨pO, 1, none⟩ = some (.int .i64 tol) := at_ownL (vs := orC pF tol mO) (.tail _ (.tail _ (.tail _ (.tail _ (.head _))))) rfl w1 hw1
          exact c_check (tol := tol) ln x first w1 h1 htol hl1 hx) ?_
        refine x_val rfl rfl rfl (v_assign rfl) ?_
        refine x_end ?_
        refine t_norm ?_
        refine w_seq ?_
        refine rg_text ?_
        refine x_val rfl rfl rfl (v_move rfl) ?_
        refine x_bool rfl rfl rfl (v_neq rfl rfl) ?_
        intro b54 hb54
        refine x_end ?_
        refine t_norm ?_
        refine w_cond rfl (fun hc54 => ?_) (fun hc54 => ?_)
        · simp only [hb54, decide_eq_true_eq, decide_eq_false_iff_not, Bool.and_eq_true, Bool.or_eq_true, Bool.and_eq_false_iff, Bool.or_eq_false_iff, Bool.not_eq_true', Bool.not_eq_false', ne_eq, Decidable.not_not] at hc54
          refine w_seq ?_
          refine rg_text ?_
          refine x_val rfl rfl rfl (v_move rfl) ?_
          refine x_val rfl rfl rfl (v_assign rfl) ?_
          refine x_end ?_
          refine t_norm ?_
          refine w_ret ?_
          refine t_ret ?_
          refine b_ret ?_
          refine t_ret ?_
          refine t_ret ?_
          refine b_ret ?_
          refine t_ret ?_
          refine ret1 rfl rfl (fun w' hm' => ?_)
          rw [show (invoiceP ⟨f, tol, some (x, first)⟩ ln) = (checkP tol ln (some (x, first)), ⟨f, tol, some (x, first)⟩) from by unfold invoiceP; rw [show lookO ⟨f, tol, some (x, first)⟩ ln.id = some (x, first) from by unfold lookO; rw [if_pos hl7]]; rw [if_pos hc54]]
          exact ⟨rfl, (mO, esO, ckO), hO, hm'.less ((((List.sublist_cons_self _ _).trans (List.sublist_cons_self _ _)).trans (List.sublist_cons_self _ _)).trans (List.sublist_cons_self _ _)) (fun _ h => .tail _ (.tail _ h))⟩
        · simp only [hb54, decide_eq_true_eq, decide_eq_false_iff_not, Bool.and_eq_true, Bool.or_eq_true, Bool.and_eq_false_iff, Bool.or_eq_false_iff, Bool.not_eq_true', Bool.not_eq_false', ne_eq, Decidable.not_not] at hc54
          refine w_skip ?_
          refine t_norm ?_
          refine w_seq ?_
          refine w_seq ?_
          refine rg_text ?_
          refine x_val rfl rfl rfl (v_move rfl) ?_
          refine x_val rfl rfl rfl (v_fieldAddr (off' := 0) Tryz.underlying54 rfl sz35 (by decide) rfl rfl) ?_
          refine x_val rfl rfl rfl (v_fieldAddr (off' := 1) Tryz.underlying35 rfl sz3 (by decide) rfl rfl) ?_
          refine x_val rfl rfl rfl (v_load Tryz.underlying3 rfl rfl (at_ownL (vs := orC10 x first) (.head _) (by show some (Value.int .i64 x.fund) = some (Value.int .i64 2); rw [o12]))) ?_
          refine x_val (v := Value.tuple #[.int .i64 0, .bool false]) rfl rfl rfl (v_lookup2H Tryz.underlying75 (Maps.int_keyed Tryz.underlying3) zr3 rfl rfl (Maps.keyOf_int_mk Tryz.underlying3 (by decide)) (map_own (.tail _ (.tail _ (.head _)))) hM8 rfl rfl) ?_
          refine x_val rfl rfl rfl (v_move rfl) ?_
          refine x_val rfl rfl rfl (v_extract rfl rfl) ?_
          refine x_bool rfl rfl rfl (v_extract rfl rfl) ?_
          intro b63 hb63
          refine x_val rfl rfl rfl (v_assign rfl) ?_
          refine x_val rfl rfl rfl (v_assign rfl) ?_
          refine x_end ?_
          refine t_norm ?_
          refine w_seq ?_
          refine rg_text ?_
          refine x_val rfl rfl rfl (v_move rfl) ?_
          refine x_bool rfl rfl rfl (v_not rfl) ?_
          intro b65 hb65
          refine x_end ?_
          refine t_norm ?_
          refine w_cond rfl (fun hc65 => ?_) (fun hc65 => ?_)
          · simp only [hb65, hb63, decide_eq_true_eq, decide_eq_false_iff_not, Bool.and_eq_true, Bool.or_eq_true, Bool.and_eq_false_iff, Bool.or_eq_false_iff, Bool.not_eq_true', Bool.not_eq_false', ne_eq, Decidable.not_not] at hc65
            refine rg_draw 12 [(true, 0), (true, 1), (true, 2), (true, 3), (true, 4), (true, 5), (true, 6), (true, 7), (true, 8), (true, 9), (true, 10), (true, 11)] (by kernel_rfl) (by kernel_rfl) ?_
            refine x_val rfl rfl rfl (v_move rfl) ?_
            refine x_val rfl rfl rfl (v_fieldAddr (off' := 0) Tryz.underlying54 rfl sz35 (by decide) rfl rfl) ?_
            refine x_val rfl rfl rfl (v_fieldAddr (off' := 1) Tryz.underlying35 rfl sz3 (by decide) rfl rfl) ?_
            refine x_val rfl rfl rfl (v_load Tryz.underlying3 rfl rfl (at_ownL (vs := orC10 x first) (.head _) (by show some (Value.int .i64 x.fund) = some (Value.int .i64 2); rw [o12]))) ?_
            refine x_val rfl rfl rfl (v_move rfl) ?_
            refine x_val rfl rfl rfl (v_nilCheck rfl) ?_
            refine x_val rfl rfl rfl (v_fieldAddr (off' := 0) Tryz.underlying58 rfl sz26 (by decide) rfl rfl) ?_
            refine x_val rfl rfl rfl (v_load Tryz.underlying26 rfl rfl (at_ownL (vs := orC pF tol mO) (.tail _ (.tail _ (.tail _ (.tail _ (.head _))))) rfl)) ?_
            refine x_val rfl rfl rfl (v_fieldAddr (off' := 0) Tryz.underlying54 rfl sz35 (by decide) rfl rfl) ?_
            refine x_val rfl rfl rfl (v_fieldAddr (off' := 1) Tryz.underlying35 rfl sz3 (by decide) rfl rfl) ?_
            refine x_val rfl rfl rfl (v_load Tryz.underlying3 rfl rfl (at_ownL (vs := orC10 x first) (.head _) (by show some (Value.int .i64 x.fund) = some (Value.int .i64 2); rw [o12]))) ?_
            refine x_callv rfl rfl rfl Tryz.func35 (by kernel_rfl) rfl (fun w1 hw1 => c_Free (f := f) w1 (at_ownL (vs := fnC mF money) (by repeat (first | exact List.Mem.head _ | apply List.Mem.tail)) rfl w1 hw1) (hw1.own_at (mF, _) (by repeat (first | exact List.Mem.head _ | apply List.Mem.tail))) hF (fun i v hv => at_ownL (vs := fxC f) (.tail _ (.tail _ (.tail _ (.tail _ (.tail _ (.tail _ (.head _))))))) hv w1 hw1) hok) ?_
            refine x_mapUpdate [(p11, Obj.cells (orC10 x first).toArray 54), (p10, Obj.cells ln.cells.toArray 35)] (l2 := (pN, Obj.map esN ckN) :: (pO, Obj.cells (orC pF tol mO).toArray 58) :: (mO, Obj.map esO ckO) :: (pX, Obj.cells (fxC f).toArray 88) :: (mF, Obj.map esF ckF) :: (pF, Obj.cells (fnC mF money).toArray 83) :: L) (es := es8) (clock := ck8) rfl rfl rfl rfl Tryz.underlying75 (Maps.int_keyed Tryz.underlying3) (Maps.keyOf_int_mk Tryz.underlying3 (by decide)) rfl hM8 ?_
            intro es66 clock66 hmf66
            refine x_end ?_
            refine t_norm ?_
            refine w_seq ?_
            refine rg_text ?_
            refine x_val rfl rfl rfl (v_move rfl) ?_
            refine x_val rfl rfl rfl (v_fieldAddr (off' := 0) Tryz.underlying54 rfl sz35 (by decide) rfl rfl) ?_
            refine x_val rfl rfl rfl (v_fieldAddr (off' := 1) Tryz.underlying35 rfl sz3 (by decide) rfl rfl) ?_
            refine x_val rfl rfl rfl (v_load Tryz.underlying3 rfl rfl (at_ownL (vs := orC10 x first) (.head _) (by show some (Value.int .i64 x.fund) = some (Value.int .i64 2); rw [o12]))) ?_
            refine x_val (v := Value.int .i64 f.free) rfl rfl rfl (v_lookupH Tryz.underlying75 (Maps.int_keyed Tryz.underlying3) zr3 rfl rfl (Maps.keyOf_int_mk Tryz.underlying3 (by decide)) (map_own (.tail _ (.tail _ (.head _)))) hmf66 (by rw [fupd_self]; rfl)) ?_
            refine x_val rfl rfl rfl (v_fieldAddr (off' := 4) Tryz.underlying35 rfl sz3 (by decide) rfl rfl) ?_
            refine x_val rfl rfl rfl (v_load Tryz.underlying3 rfl rfl (at_ownL (vs := ln.cells) (.tail _ (.head _)) rfl)) ?_
            refine x_val rfl rfl rfl (v_fieldAddr (off' := 0) Tryz.underlying54 rfl sz35 (by decide) rfl rfl) ?_
            refine x_val rfl rfl rfl (v_fieldAddr (off' := 5) Tryz.underlying35 rfl sz3 (by decide) rfl rfl) ?_
            refine x_val rfl rfl rfl (v_load Tryz.underlying3 rfl rfl (at_ownL (vs := orC10 x first) (.head _) rfl)) ?_
            refine x_val rfl rfl rfl (v_fieldAddr (off' := 5) Tryz.underlying35 rfl sz3 (by decide) rfl rfl) ?_
            refine x_val rfl rfl rfl (v_load Tryz.underlying3 rfl rfl (at_ownL (vs := ln.cells) (.tail _ (.head _)) rfl)) ?_
            refine x_val rfl rfl rfl (v_subi rfl rfl rfl (by first | omega | (dsimp only; omega))) ?_
            refine x_val rfl rfl rfl (v_muli rfl rfl rfl (by first | omega | (dsimp only; omega))) ?_
            refine x_val rfl rfl rfl (v_addi rfl rfl rfl (by first | omega | (dsimp only; omega))) ?_
            refine x_mapUpdate [(p11, Obj.cells (orC10 x first).toArray 54), (p10, Obj.cells ln.cells.toArray 35)] (l2 := (pN, Obj.map esN ckN) :: (pO, Obj.cells (orC pF tol mO).toArray 58) :: (mO, Obj.map esO ckO) :: (pX, Obj.cells (fxC f).toArray 88) :: (mF, Obj.map esF ckF) :: (pF, Obj.cells (fnC mF money).toArray 83) :: L) (es := es66) (clock := clock66) rfl rfl rfl rfl Tryz.underlying75 (Maps.int_keyed Tryz.underlying3) (Maps.keyOf_int_mk Tryz.underlying3 (by decide)) rfl hmf66 ?_
            intro es78 clock78 hmf78
            refine x_end ?_
            refine t_norm ?_
            refine w_seq ?_
            refine w_seq ?_
            refine rg_text ?_
            refine x_val rfl rfl rfl (v_move rfl) ?_
            refine x_val rfl rfl rfl (v_fieldAddr (off' := 0) Tryz.underlying54 rfl sz35 (by decide) rfl rfl) ?_
            refine x_val rfl rfl rfl (v_fieldAddr (off' := 1) Tryz.underlying35 rfl sz3 (by decide) rfl rfl) ?_
            refine x_val rfl rfl rfl (v_load Tryz.underlying3 rfl rfl (at_ownL (vs := orC10 x first) (.head _) (by show some (Value.int .i64 x.fund) = some (Value.int .i64 2); rw [o12]))) ?_
            refine x_val (v := Value.int .i64 (f.free + ln.copies * (x.price - ln.price))) rfl rfl rfl (v_lookupH Tryz.underlying75 (Maps.int_keyed Tryz.underlying3) zr3 rfl rfl (Maps.keyOf_int_mk Tryz.underlying3 (by decide)) (map_own (.tail _ (.tail _ (.head _)))) hmf78 (by rw [fupd_self]; rfl)) ?_
            refine x_bool rfl rfl rfl (v_lss rfl rfl) ?_
            intro b98 hb98
            refine x_end ?_
            refine t_norm ?_
            refine w_cond rfl (fun hc98 => ?_) (fun hc98 => ?_)
            · simp only [hb98, decide_eq_true_eq, decide_eq_false_iff_not, Bool.and_eq_true, Bool.or_eq_true, Bool.and_eq_false_iff, Bool.or_eq_false_iff, Bool.not_eq_true', Bool.not_eq_false', ne_eq, Decidable.not_not] at hc98
              refine w_seq ?_
              refine rg_text ?_
              refine x_val rfl rfl rfl (v_assign rfl) ?_
              refine x_end ?_
              refine t_norm ?_
              refine w_ret ?_
              refine t_ret ?_
              refine b_ret ?_
              refine t_ret ?_
              refine t_ret ?_
              refine b_ret ?_
              refine t_ret ?_
              refine ret1 rfl rfl (fun w' hm' => ?_)
              rw [show (invoiceP ⟨f, tol, some (x, first)⟩ ln) = (60, ⟨f, tol, some (x, first)⟩) from by unfold invoiceP; rw [show lookO ⟨f, tol, some (x, first)⟩ ln.id = some (x, first) from by unfold lookO; rw [if_pos hl7]]; rw [if_neg (show ¬checkP tol ln (some (x, first)) ≠ 0 from fun q => q hc54)]; dsimp only; rw [if_pos hc98]]
              exact ⟨rfl, (mO, esO, ckO), hO, hm'.less ((((List.sublist_cons_self _ _).trans (List.sublist_cons_self _ _)).trans (List.sublist_cons_self _ _)).trans (List.sublist_cons_self _ _)) (fun _ h => .tail _ (.tail _ h))⟩
            · simp only [hb98, decide_eq_true_eq, decide_eq_false_iff_not, Bool.and_eq_true, Bool.or_eq_true, Bool.and_eq_false_iff, Bool.or_eq_false_iff, Bool.not_eq_true', Bool.not_eq_false', ne_eq, Decidable.not_not] at hc98
              refine w_skip ?_
              refine t_norm ?_
              refine w_seq ?_
              refine rg_text ?_
              refine x_val rfl rfl rfl (v_fieldAddr (off' := 0) Tryz.underlying54 rfl sz35 (by decide) rfl rfl) ?_
              refine x_val rfl rfl rfl (v_fieldAddr (off' := 7) Tryz.underlying35 rfl sz3 (by decide) rfl rfl) ?_
              refine x_val rfl rfl rfl (v_load Tryz.underlying3 rfl rfl (at_ownL (vs := orC10 x first) (.head _) rfl)) ?_
              refine x_val rfl rfl rfl (v_fieldAddr (off' := 4) Tryz.underlying35 rfl sz3 (by decide) rfl rfl) ?_
              refine x_val rfl rfl rfl (v_load Tryz.underlying3 rfl rfl (at_ownL (vs := ln.cells) (.tail _ (.head _)) rfl)) ?_
              refine x_val rfl rfl rfl (v_addi rfl rfl rfl (by first | omega | (dsimp only; omega))) ?_
              refine x_val rfl rfl rfl (v_fieldAddr (off' := 0) Tryz.underlying54 rfl sz35 (by decide) rfl rfl) ?_
              refine x_val rfl rfl rfl (v_fieldAddr (off' := 7) Tryz.underlying35 rfl sz3 (by decide) rfl rfl) ?_
              refine x_store (cs := orC10 x first) (off := 7) (e := 54) (l2 := (p10, Obj.cells ln.cells.toArray 35) :: (p34, Obj.map es78 clock78) :: (pN, Obj.map esN ckN) :: (pO, Obj.cells (orC pF tol mO).toArray 58) :: (mO, Obj.map esO ckO) :: (pX, Obj.cells (fxC f).toArray 88) :: (mF, Obj.map esF ckF) :: (pF, Obj.cells (fnC mF money).toArray 83) :: L) [] rfl rfl rfl rfl sz3 rfl (by show 8 ≤ 10; decide) ?_
              refine x_end ?_
              refine t_norm ?_
              refine w_state _ ((p11, Obj.cells (orC10 { x with paid := x.paid + ln.copies } first).toArray 54) :: (p10, Obj.cells ln.cells.toArray 35) :: (p34, Obj.map es78 clock78) :: (pN, Obj.map esN ckN) :: (pO, Obj.cells (orC pF tol mO).toArray 58) :: (mO, Obj.map esO ckO) :: (pX, Obj.cells (fxC f).toArray 88) :: (mF, Obj.map esF ckF) :: (pF, Obj.cells (fnC mF money).toArray 83) :: L) _ ?_
              refine rg_text ?_
              refine x_val rfl rfl rfl (v_move rfl) ?_
              refine x_val rfl rfl rfl (v_fieldAddr (off' := 0) Tryz.underlying35 rfl sz3 (by decide) rfl rfl) ?_
              refine x_val (v := Value.int .i64 7) rfl rfl rfl (v_load Tryz.underlying3 rfl rfl (at_ownL (vs := ln.cells) (.tail _ (.head _)) (by show some (Value.int .i64 ln.id) = _; rw [hl7]))) ?_
              refine x_val rfl rfl rfl (v_load_blk (e := 54) (fz := (0, 0)) (cs := (orC10 { x with paid := x.paid + ln.copies } first).toArray) Tryz.underlying54 rfl rfl (.head _) sz54) ?_
              refine x_mapUpdate [(p11, Obj.cells (orC10 { x with paid := x.paid + ln.copies } first).toArray 54), (p10, Obj.cells ln.cells.toArray 35), (p34, Obj.map es78 clock78)] (l2 := (pO, Obj.cells (orC pF tol mO).toArray 58) :: (mO, Obj.map esO ckO) :: (pX, Obj.cells (fxC f).toArray 88) :: (mF, Obj.map esF ckF) :: (pF, Obj.cells (fnC mF money).toArray 83) :: L) (es := esN) (clock := ckN) rfl rfl rfl rfl Tryz.underlying56 (Maps.int_keyed Tryz.underlying3) (Maps.keyOf_int_mk Tryz.underlying3 (by decide)) rfl hMN ?_
              intro es107 clock107 hmf107
              refine x_end ?_
              refine b_norm ?_
              refine t_norm ?_
              refine rg_text ?_
              refine x_val rfl rfl rfl (v_addi rfl rfl rfl (by first | omega | (dsimp only; omega))) ?_
              refine x_val rfl rfl rfl (v_move rfl) ?_
              refine x_end ?_
              have h7 : MapF Tryz.prog 3 es107 (fO (some ({ x with paid := x.paid + ln.copies }, first))) := by
                have h := hmf107
                have e : fupd (fO (some (x, first))) (.int .i64 7) (Value.agg (orC10 { x with paid := x.paid + ln.copies } first).toArray) = fO (some ({ x with paid := x.paid + ln.copies }, first)) := fO_put (x := some (x, first)) (y := ({ x with paid := x.paid + ln.copies }, first))
                rw [e] at h; exact h
              exact l_norm (1, es78, clock78, es107, clock107) ⟨Nat.le_refl 1, fun h => absurd h Nat.one_ne_zero, fun _ => ⟨h7, hc54, by omega⟩⟩ (by simp only; omega) (by repeat (first | exact Sub.nil | refine Sub.cons rfl ?_)) (fun w1 h => h.less ((List.sublist_cons_self _ _).trans (List.sublist_cons_self _ _)) (fun _ h => h))
          · exfalso
            rw [hb65, hb63] at hc65
            revert hc65; simp
      · simp only [hb38, decide_eq_true_eq, decide_eq_false_iff_not, Bool.and_eq_true, Bool.or_eq_true, Bool.and_eq_false_iff, Bool.or_eq_false_iff, Bool.not_eq_true', Bool.not_eq_false', ne_eq, Decidable.not_not] at hc38
        have hk1 : k = 1 := by omega
        subst hk1
        obtain ⟨hMY, hc1, hc2⟩ := hI1 rfl
        refine w_exit ?_
        refine t_exit ?_
        refine t_exit ?_
        refine b_hit ?_
        refine t_norm ?_
        refine w_seq ?_
        refine w_seq ?_
        refine rg_text ?_
        refine x_val rfl rfl rfl (v_move rfl) ?_
        refine x_val rfl rfl rfl (v_len_slice Tryz.underlying70 rfl) ?_
        refine x_val rfl rfl rfl (v_move rfl) ?_
        refine x_end ?_
        refine t_norm ?_
        refine w_block ?_
        refine w_loop (σ := Nat × FSt) (fun z => z.1 ≤ 1 ∧ (z.1 = 0 → z.2 = f) ∧ (z.1 = 1 → z.2 = paidF f x ln)) (fun z => [(0, Value.pointer (some ⟨pO, 0, none⟩)), (7, Value.map (some pN)), (112, Value.slice A23 1 c23), (113, Value.int .i64 1), (114, Value.int .i64 (z.1 : Nat))]) (fun z => (pN, Obj.map esN ckN) :: (pO, Obj.cells (orC pF tol mO).toArray 58) :: (mO, Obj.map esO ckO) :: (pX, Obj.cells (fxC z.2).toArray 88) :: (mF, Obj.map esF ckF) :: (pF, Obj.cells (fnC mF money).toArray 83) :: L) (fun z => (wb33, notOwn ((pN, Obj.map esO ckO) :: (pO, Obj.cells (orC pF tol mO).toArray 58) :: (mO, Obj.map esO ckO) :: (pX, Obj.cells (fxC f).toArray 88) :: (mF, Obj.map esF ckF) :: (pF, Obj.cells (fnC mF money).toArray 83) :: L)) :: (wb23, notOwn ((pO, Obj.cells (orC pF tol mO).toArray 58) :: (mO, Obj.map esO ckO) :: (pX, Obj.cells (fxC f).toArray 88) :: (mF, Obj.map esF ckF) :: (pF, Obj.cells (fnC mF money).toArray 83) :: L)) :: ro) (fun z => 1 - z.1) ((0, f)) (⟨Nat.zero_le _, fun _ => rfl, fun h => by cases h⟩) (l_start (by repeat (first | exact Sub.nil | refine Sub.cons rfl ?_)) (fun _ h => h.less (List.sublist_cons_self _ _) (fun _ h => h))) ?_
        rintro ⟨k2, g⟩ ⟨hk2, hg0, hg1⟩
        refine w_state ([(0, Value.pointer (some ⟨pO, 0, none⟩)), (7, Value.map (some pN)), (112, Value.slice A23 1 c23), (113, Value.int .i64 1), (114, Value.int .i64 (k2 : Nat))]) ((pN, Obj.map esN ckN) :: (pO, Obj.cells (orC pF tol mO).toArray 58) :: (mO, Obj.map esO ckO) :: (pX, Obj.cells (fxC g).toArray 88) :: (mF, Obj.map esF ckF) :: (pF, Obj.cells (fnC mF money).toArray 83) :: L) ((wb33, notOwn ((pN, Obj.map esO ckO) :: (pO, Obj.cells (orC pF tol mO).toArray 58) :: (mO, Obj.map esO ckO) :: (pX, Obj.cells (fxC f).toArray 88) :: (mF, Obj.map esF ckF) :: (pF, Obj.cells (fnC mF money).toArray 83) :: L)) :: (wb23, notOwn ((pO, Obj.cells (orC pF tol mO).toArray 58) :: (mO, Obj.map esO ckO) :: (pX, Obj.cells (fxC f).toArray 88) :: (mF, Obj.map esF ckF) :: (pF, Obj.cells (fnC mF money).toArray 83) :: L)) :: ro) ?_
        dsimp only at hk2 hg0 hg1
        refine w_seq ?_
        refine rg_text ?_
        refine x_bool rfl rfl rfl (v_lss rfl rfl) ?_
        intro b115 hb115
        refine x_end ?_
        refine t_norm ?_
        refine w_seq ?_
        refine w_cond rfl (fun hc115 => ?_) (fun hc115 => ?_)
        · simp only [hb115, decide_eq_true_eq, decide_eq_false_iff_not, Bool.and_eq_true, Bool.or_eq_true, Bool.and_eq_false_iff, Bool.or_eq_false_iff, Bool.not_eq_true', Bool.not_eq_false', ne_eq, Decidable.not_not] at hc115
          have hk0 : k2 = 0 := by omega
          subst hk0
          obtain rfl : f = g := (hg0 rfl).symm
          refine w_skip ?_
          refine t_norm ?_
          refine w_seq ?_
          refine w_block ?_
          refine w_seq ?_
          refine rg_text ?_
          refine x_val rfl rfl rfl (v_indexAddr Tryz.underlying70 sz35 (congrArg (fun A => some (Value.slice A 1 c23)) hlA) rfl (by decide) rfl) ?_
          refine x_val rfl rfl rfl (v_loadN (vs := ln.cells) Tryz.underlying35 rfl sz35 rfl (fun i hi => at_ro (.tail _ (.head _)) (fun q hq e => by have := hm23.lt hq; omega) (hlc i hi))) ?_
          refine x_alloc rfl rfl rfl zr35 ?_
          intro p17
          refine x_store0 [] rfl rfl rfl rfl sz35 rfl rfl ?_
          refine x_end ?_
          refine t_norm ?_
          refine w_seq ?_
          refine rg_inv ((p17, Obj.cells ln.cells.toArray 35) :: (pN, Obj.map esN ckN) :: (pO, Obj.cells (orC pF tol mO).toArray 58) :: (mO, Obj.map esO ckO) :: (pX, Obj.cells (fxC f).toArray 88) :: (mF, Obj.map esF ckF) :: (pF, Obj.cells (fnC mF money).toArray 83) :: L) 9 (.flt 0 (.flt 1 (.flt 2 (.flt 3 (.flt 4 (.flt 5 (.flt 6 (.gr 7 (.gr 8 .done .nil) .nil)))))))) (.refl _) (by kernel_rfl) (by kernel_rfl) ?_
          refine j_val rfl rfl (v_move rfl) ?_
          refine j_val rfl rfl (v_nilCheck rfl) ?_
          refine j_val rfl rfl (v_fieldAddr (off' := 2) Tryz.underlying58 rfl sz56 (by decide) rfl rfl) ?_
          refine j_val rfl rfl (v_load Tryz.underlying56 rfl rfl (at_ownL (vs := orC pF tol mO) (.tail _ (.tail _ (.head _))) rfl)) ?_
          refine j_val rfl rfl (v_fieldAddr (off' := 0) Tryz.underlying35 rfl sz3 (by decide) rfl rfl) ?_
          refine j_val (v := Value.int .i64 7) rfl rfl (v_load Tryz.underlying3 rfl rfl (at_ownL (vs := ln.cells) (.head _) (by show some (Value.int .i64 ln.id) = _; rw [hl7]))) ?_
          refine j_val (v := orV x first) rfl rfl (v_lookupH Tryz.underlying56 (Maps.int_keyed Tryz.underlying3) zr54 rfl rfl (Maps.keyOf_int_mk Tryz.underlying3 (by decide)) (map_own (.tail _ (.tail _ (.tail _ (.head _))))) hO (by rw [fO_at]; rfl)) ?_
          refine j_gr ?_ j_nil
          refine x_alloc rfl rfl rfl zr54 ?_
          intro p18
          refine x_end ?_
          refine j_end (List.sublist_cons_self _ _) ?_
          refine j_gr ?_ j_nil
          refine x_store0 [] rfl rfl rfl rfl sz54 rfl rfl ?_
          refine x_end ?_
          refine j_end (List.sublist_cons_self _ _) ?_
          refine j_done ?_
          refine x_end ?_
          refine t_norm ?_
          refine w_seq ?_
          refine w_state _ ((p18, Obj.cells (orC10 x first).toArray 54) :: (p17, Obj.cells ln.cells.toArray 35) :: (pN, Obj.map esN ckN) :: (pO, Obj.cells (orC pF tol mO).toArray 58) :: (mO, Obj.map esO ckO) :: (pX, Obj.cells (fxC f).toArray 88) :: (mF, Obj.map esF ckF) :: (pF, Obj.cells (fnC mF money).toArray 83) :: L) _ ?_
          refine rg_draw 13 [(true, 0), (true, 1), (true, 2), (true, 3), (true, 4), (true, 5), (true, 6), (true, 7), (true, 8), (true, 9), (true, 10), (true, 11), (true, 12)] (by kernel_rfl) (by kernel_rfl) ?_
          refine x_val rfl rfl rfl (v_move rfl) ?_
          refine x_val rfl rfl rfl (v_nilCheck rfl) ?_
          refine x_val rfl rfl rfl (v_fieldAddr (off' := 0) Tryz.underlying58 rfl sz26 (by decide) rfl rfl) ?_
          refine x_val rfl rfl rfl (v_load Tryz.underlying26 rfl rfl (at_ownL (vs := orC pF tol mO) (.tail _ (.tail _ (.tail _ (.head _)))) rfl)) ?_
          refine x_val rfl rfl rfl (v_fieldAddr (off' := 0) Tryz.underlying54 rfl sz35 (by decide) rfl rfl) ?_
          refine x_val rfl rfl rfl (v_fieldAddr (off' := 1) Tryz.underlying35 rfl sz3 (by decide) rfl rfl) ?_
          refine x_val rfl rfl rfl (v_load Tryz.underlying3 rfl rfl (at_ownL (vs := orC10 x first) (.head _) (by show some (Value.int .i64 x.fund) = some (Value.int .i64 2); rw [o12]))) ?_
          refine x_val rfl rfl rfl (v_fieldAddr (off' := 4) Tryz.underlying35 rfl sz3 (by decide) rfl rfl) ?_
          refine x_val rfl rfl rfl (v_load Tryz.underlying3 rfl rfl (at_ownL (vs := ln.cells) (.tail _ (.head _)) rfl)) ?_
          refine x_val rfl rfl rfl (v_fieldAddr (off' := 0) Tryz.underlying54 rfl sz35 (by decide) rfl rfl) ?_
          refine x_val rfl rfl rfl (v_fieldAddr (off' := 5) Tryz.underlying35 rfl sz3 (by decide) rfl rfl) ?_
          refine x_val rfl rfl rfl (v_load Tryz.underlying3 rfl rfl (at_ownL (vs := orC10 x first) (.head _) rfl)) ?_
          refine x_val rfl rfl rfl (v_muli rfl rfl rfl (by first | omega | (dsimp only; omega))) ?_
          refine x_turnf (τ := Unit) (v := Value.int .i64 (relP f (ln.copies * x.price)).1) (fun _ => True) (fun _ => (p18, Obj.cells (orC10 x first).toArray 54) :: (p17, Obj.cells ln.cells.toArray 35) :: (pN, Obj.map esN ckN) :: (pO, Obj.cells (orC pF tol mO).toArray 58) :: (mO, Obj.map esO ckO) :: (pX, Obj.cells (fxC (relP f (ln.copies * x.price)).2).toArray 88) :: (mF, Obj.map esF ckF) :: (pF, Obj.cells (fnC mF money).toArray 83) :: L) rfl rfl Tryz.func26 (by kernel_rfl) rfl (fun w1 hw1 => c_Rel (l1 := [(p18, Obj.cells (orC10 x first).toArray 54), (p17, Obj.cells ln.cells.toArray 35), (pN, Obj.map esN ckN), (pO, Obj.cells (orC pF tol mO).toArray 58), (mO, Obj.map esO ckO)]) hw1 hF hok (ln.copies * x.price)) ?_
          intro _ _
          refine x_end ?_
          refine t_norm ?_
          refine rg_draw 12 [(true, 0), (true, 1), (true, 2), (true, 3), (true, 4), (true, 5), (true, 6), (true, 7), (true, 8), (true, 9), (true, 10), (true, 11)] (by kernel_rfl) (by kernel_rfl) ?_
          refine x_val rfl rfl rfl (v_move rfl) ?_
          refine x_val rfl rfl rfl (v_nilCheck rfl) ?_
          refine x_val rfl rfl rfl (v_fieldAddr (off' := 0) Tryz.underlying58 rfl sz26 (by decide) rfl rfl) ?_
          refine x_val rfl rfl rfl (v_load Tryz.underlying26 rfl rfl (at_ownL (vs := orC pF tol mO) (.tail _ (.tail _ (.tail _ (.head _)))) rfl)) ?_
          refine x_val rfl rfl rfl (v_fieldAddr (off' := 0) Tryz.underlying54 rfl sz35 (by decide) rfl rfl) ?_
          refine x_val rfl rfl rfl (v_fieldAddr (off' := 1) Tryz.underlying35 rfl sz3 (by decide) rfl rfl) ?_
          refine x_val rfl rfl rfl (v_load Tryz.underlying3 rfl rfl (at_ownL (vs := orC10 x first) (.head _) (by show some (Value.int .i64 x.fund) = some (Value.int .i64 2); rw [o12]))) ?_
          refine x_val rfl rfl rfl (v_fieldAddr (off' := 4) Tryz.underlying35 rfl sz3 (by decide) rfl rfl) ?_
          refine x_val rfl rfl rfl (v_load Tryz.underlying3 rfl rfl (at_ownL (vs := ln.cells) (.tail _ (.head _)) rfl)) ?_
          refine x_val rfl rfl rfl (v_fieldAddr (off' := 5) Tryz.underlying35 rfl sz3 (by decide) rfl rfl) ?_
          refine x_val rfl rfl rfl (v_load Tryz.underlying3 rfl rfl (at_ownL (vs := ln.cells) (.tail _ (.head _)) rfl)) ?_
          refine x_val rfl rfl rfl (v_muli rfl rfl rfl (by first | omega | (dsimp only; omega))) ?_
          refine x_turnf (τ := Unit) (v := Value.int .i64 (spdP (relP f (ln.copies * x.price)).2 (ln.copies * ln.price)).1) (fun _ => True) (fun _ => (p18, Obj.cells (orC10 x first).toArray 54) :: (p17, Obj.cells ln.cells.toArray 35) :: (pN, Obj.map esN ckN) :: (pO, Obj.cells (orC pF tol mO).toArray 58) :: (mO, Obj.map esO ckO) :: (pX, Obj.cells (fxC (spdP (relP f (ln.copies * x.price)).2 (ln.copies * ln.price)).2).toArray 88) :: (mF, Obj.map esF ckF) :: (pF, Obj.cells (fnC mF money).toArray 83) :: L) rfl rfl Tryz.func36 (by kernel_rfl) rfl (fun w1 hw1 => c_Spd (l1 := [(p18, Obj.cells (orC10 x first).toArray 54), (p17, Obj.cells ln.cells.toArray 35), (pN, Obj.map esN ckN), (pO, Obj.cells (orC pF tol mO).toArray 58), (mO, Obj.map esO ckO)]) hw1 hF (rel_ok hok) (ln.copies * ln.price)) ?_
          intro _ _
          refine x_end ?_
          refine b_norm ?_
          refine t_norm ?_
          refine rg_text ?_
          refine x_val rfl rfl rfl (v_addi rfl rfl rfl (by first | omega | (dsimp only; omega))) ?_
          refine x_val rfl rfl rfl (v_move rfl) ?_
          refine x_end ?_
          exact l_norm (1, paidF f x ln) ⟨Nat.le_refl 1, fun h => absurd h Nat.one_ne_zero, fun _ => rfl⟩ (by simp only; omega) (by repeat (first | exact Sub.nil | refine Sub.cons rfl ?_)) (fun w1 h => h.less ((List.sublist_cons_self _ _).trans (List.sublist_cons_self _ _)) (fun _ h => h))
        · simp only [hb115, decide_eq_true_eq, decide_eq_false_iff_not, Bool.and_eq_true, Bool.or_eq_true, Bool.and_eq_false_iff, Bool.or_eq_false_iff, Bool.not_eq_true', Bool.not_eq_false', ne_eq, Decidable.not_not] at hc115
          have hk1 : k2 = 1 := by omega
          subst hk1
          obtain rfl : paidF f x ln = g := (hg1 rfl).symm
          refine w_exit ?_
          refine t_exit ?_
          refine t_exit ?_
          refine b_hit ?_
          refine t_norm ?_
          refine w_seq ?_
          refine rg_text ?_
          refine x_val rfl rfl rfl (v_move rfl) ?_
          refine x_val rfl rfl rfl (v_move rfl) ?_
          refine x_val rfl rfl rfl (v_nilCheck rfl) ?_
          refine x_val rfl rfl rfl (v_fieldAddr (off' := 2) Tryz.underlying58 rfl sz56 (by decide) rfl rfl) ?_
          refine x_store (cs := orC pF tol mO) (off := 2) (e := 58) (l2 := (mO, Obj.map esO ckO) :: (pX, Obj.cells (fxC (paidF f x ln)).toArray 88) :: (mF, Obj.map esF ckF) :: (pF, Obj.cells (fnC mF money).toArray 83) :: L) [(pN, Obj.map esN ckN)] rfl rfl rfl rfl sz56 rfl (by show 3 ≤ 3; decide) ?_
          refine x_end ?_
          refine t_norm ?_
          refine w_seq ?_
          refine rg_text ?_
          refine x_val rfl rfl rfl (v_assign rfl) ?_
          refine x_end ?_
          refine t_norm ?_
          refine w_ret ?_
          refine ret1 rfl rfl (fun w' hm' => ?_)
          rw [show (invoiceP ⟨f, tol, some (x, first)⟩ ln) = (0, ⟨paidF f x ln, tol, some ({ x with paid := x.paid + ln.copies }, first)⟩) from by unfold invoiceP; rw [show lookO ⟨f, tol, some (x, first)⟩ ln.id = some (x, first) from by unfold lookO; rw [if_pos hl7]]; rw [if_neg (show ¬checkP tol ln (some (x, first)) ≠ 0 from fun q => q hc1)]; dsimp only; rw [if_neg hc2]]
          exact ⟨rfl, (pN, esN, ckN), hMY, (hm'.perm (List.Perm.swap _ _ _)).less (List.Sublist.cons_cons _ (List.Sublist.cons_cons _ (List.sublist_cons_self _ _))) (fun _ h => .tail _ (.tail _ h))⟩

end Go.Proofs.YtdampedpgbnihaaGreatDoor

namespace Go.Proofs.YtdampedpgbnihaaGreatDoor
open Go.RowKit Go.PK
set_option linter.unusedVariables false
set_option linter.unusedSimpArgs false
set_option maxRecDepth 100000 in
theorem c_Ord {pO mO ckO : Nat} {esO : Array MapEntry} {first : Int} {x : PK.Ord} (w : World) (h1 : w.cell? ⟨pO, 2, none⟩ = some (.map (some mO))) (h2 : w.heap[mO]? = some (.map esO ckO)) (hO : MapF Tryz.prog 3 esO (fO (some (x, first)))) :
    Calls Tryz.prog 11 #[.pointer (some ⟨pO, 0, none⟩), .int .i64 7] w fun e w' => e = .returned (.tuple #[.agg x.cells.toArray, .bool true]) ∧ Later w w' := by
  refine enter (vs := [.pointer (some ⟨pO, 0, none⟩), .int .i64 7]) Tryz.func11 rfl Tryz.ntmps11 rfl ?_
  refine w_seq ?_
  refine rg_text ?_
  refine x_alloc rfl rfl rfl zr35 ?_
  intro p4
  refine x_val rfl rfl rfl (v_assign rfl) ?_
  refine x_end ?_
  refine t_norm ?_
  refine w_seq ?_
  refine w_seq ?_
  refine rg_text ?_
  refine x_val rfl rfl rfl (v_move rfl) ?_
  refine x_val (v := Value.bool false) rfl rfl rfl (v_pnil (o := some ⟨pO, 0, none⟩) Tryz.underlying25 rfl rfl) ?_
  refine x_end ?_
  refine t_norm ?_
  refine w_cond rfl (fun hc9 => ?_) (fun hc9 => ?_)
  · cases hc9
  · skip
    refine w_skip ?_
    refine t_norm ?_
    refine w_seq ?_
    refine rg_text ?_
    refine x_val rfl rfl rfl (v_move rfl) ?_
    refine x_val rfl rfl rfl (v_nilCheck rfl) ?_
    refine x_val rfl rfl rfl (v_fieldAddr (off' := 2) Tryz.underlying58 rfl sz56 (by decide) rfl rfl) ?_
    refine x_val rfl rfl rfl (v_load Tryz.underlying56 rfl rfl (at_ro (.head _) trivial h1)) ?_
    refine x_val rfl rfl rfl (v_move rfl) ?_
    refine x_val (v := Value.tuple #[orV x first, .bool true]) rfl rfl rfl (v_lookup2H Tryz.underlying56 (Maps.int_keyed Tryz.underlying3) zr54 rfl rfl (Maps.keyOf_int_mk Tryz.underlying3 (by decide)) (map_ro (.head _) trivial h2) hO (by rw [fO_at]; rfl) (by rw [fO_at]; rfl)) ?_
    refine x_val rfl rfl rfl (v_move rfl) ?_
    refine x_val rfl rfl rfl (v_extract rfl rfl) ?_
    refine x_bool rfl rfl rfl (v_extract rfl rfl) ?_
    intro b19 hb19
    refine x_alloc rfl rfl rfl zr54 ?_
    intro p6
    refine x_store0 [] rfl rfl rfl rfl sz54 rfl rfl ?_
    refine x_val rfl rfl rfl (v_assign rfl) ?_
    refine x_end ?_
    refine t_norm ?_
    refine w_seq ?_
    refine rg_text ?_
    refine x_val rfl rfl rfl (v_fieldAddr (off' := 0) Tryz.underlying54 rfl sz35 (by decide) rfl rfl) ?_
    refine x_val rfl rfl rfl (v_loadN (vs := x.cells) Tryz.underlying35 rfl sz35 rfl (fun i hi => at_ownL (vs := orC10 x first) (.head _) (by match i, hi with | 0, _ => rfl | 1, _ => rfl | 2, _ => rfl | 3, _ => rfl | 4, _ => rfl | 5, _ => rfl | 6, _ => rfl | 7, _ => rfl | 8, _ => rfl))) ?_
    refine x_val rfl rfl rfl (v_move rfl) ?_
    refine x_store0 [(p6, Obj.cells (orC10 x first).toArray 54)] rfl rfl rfl rfl sz35 rfl rfl ?_
    refine x_val rfl rfl rfl (v_assign rfl) ?_
    refine x_end ?_
    refine t_norm ?_
    refine w_ret ?_
    obtain rfl : b19 = true := hb19
    exact retct (cs := x.cells.toArray) rfl rfl rfl (.tail _ (.head _)) Tryz.underlying35 rfl sz35 (fun w' hm => ⟨rfl, hm.base (by simp)⟩)
set_option maxRecDepth 100000 in
theorem c_Cancel8 {pO mO ckO : Nat} {esO : Array MapEntry} {first : Int} {x : PK.Ord} (w : World) (h1 : w.cell? ⟨pO, 2, none⟩ = some (.map (some mO))) (h2 : w.heap[mO]? = some (.map esO ckO)) (hO : MapF Tryz.prog 3 esO (fO (some (x, first)))) :
    Calls Tryz.prog 16 #[.pointer (some ⟨pO, 0, none⟩), .int .i64 8] w fun e w' => e = .returned (.int .i64 (32)) ∧ Later w w' := by
  refine enter (vs := [.pointer (some ⟨pO, 0, none⟩), .int .i64 8]) Tryz.func16 rfl Tryz.ntmps16 rfl ?_
  refine w_seq ?_
  refine rg_text ?_
  refine x_val rfl rfl rfl (v_assign rfl) ?_
  refine x_end ?_
  refine t_norm ?_
  refine w_seq ?_
  refine w_seq ?_
  refine rg_text ?_
  refine x_val rfl rfl rfl (v_move rfl) ?_
  refine x_val (v := Value.bool false) rfl rfl rfl (v_pnil (o := some ⟨pO, 0, none⟩) Tryz.underlying25 rfl rfl) ?_
  refine x_end ?_
  refine t_norm ?_
  refine w_cond rfl (fun hc9 => ?_) (fun hc9 => ?_)
  · cases hc9
  · skip
    refine w_skip ?_
    refine t_norm ?_
    refine w_seq ?_
    refine rg_text ?_
    refine x_val rfl rfl rfl (v_move rfl) ?_
    refine x_val rfl rfl rfl (v_nilCheck rfl) ?_
    refine x_val rfl rfl rfl (v_fieldAddr (off' := 2) Tryz.underlying58 rfl sz56 (by decide) rfl rfl) ?_
    refine x_val rfl rfl rfl (v_load Tryz.underlying56 rfl rfl (at_ro (.head _) trivial h1)) ?_
    refine x_val rfl rfl rfl (v_move rfl) ?_
    refine x_val (v := Value.tuple #[.agg (orC10 zeroO 0).toArray, .bool false]) rfl rfl rfl (v_lookup2H Tryz.underlying56 (Maps.int_keyed Tryz.underlying3) zr54 rfl rfl (Maps.keyOf_int_mk Tryz.underlying3 (by decide)) (map_ro (.head _) trivial h2) hO (by rw [fO_no (by decide)]; rfl) (by rw [fO_no (by decide)]; rfl)) ?_
    refine x_val rfl rfl rfl (v_move rfl) ?_
    refine x_val rfl rfl rfl (v_extract rfl rfl) ?_
    refine x_bool rfl rfl rfl (v_extract rfl rfl) ?_
    intro b18 hb18
    refine x_alloc rfl rfl rfl zr54 ?_
    intro p5
    refine x_store0 [] rfl rfl rfl rfl sz54 rfl rfl ?_
    refine x_val rfl rfl rfl (v_assign rfl) ?_
    refine x_end ?_
    refine t_norm ?_
    refine w_seq ?_
    refine w_block ?_
    refine w_seq ?_
    refine rg_text ?_
    refine x_val rfl rfl rfl (v_move rfl) ?_
    refine x_bool rfl rfl rfl (v_not rfl) ?_
    intro b21 hb21
    refine x_val rfl rfl rfl (v_assign rfl) ?_
    refine x_end ?_
    refine t_norm ?_
    refine w_cond rfl (fun hc19 => ?_) (fun hc19 => ?_)
    · simp only [hb21, hb18, decide_eq_true_eq, decide_eq_false_iff_not, Bool.and_eq_true, Bool.or_eq_true, Bool.and_eq_false_iff, Bool.or_eq_false_iff, Bool.not_eq_true', Bool.not_eq_false', ne_eq, Decidable.not_not] at hc19
      refine w_seq ?_
      refine rg_text ?_
      refine x_val rfl rfl rfl (v_assign rfl) ?_
      refine x_end ?_
      refine t_norm ?_
      refine w_ret ?_
      refine b_ret ?_
      refine t_ret ?_
      refine ret1 rfl rfl (fun w' hm => ⟨?_, hm.base (by simp)⟩)
      rfl
    · exfalso
      rw [hb21, hb18] at hc19
      revert hc19; simp
set_option maxRecDepth 100000 in
theorem c_Place1 {pO mO ckO : Nat} {esO : Array MapEntry} {first : Int} {x : PK.Ord} (w : World) (h1 : w.cell? ⟨pO, 2, none⟩ = some (.map (some mO))) (h2 : w.heap[mO]? = some (.map esO ckO)) (hO : MapF Tryz.prog 3 esO (fO (some (x, first)))) (y : PK.Ord) (hy : y.okA) (hw : writB y = true) (hy7 : y.id = 7) (hL : LD w) :
    Calls Tryz.prog 17 #[.pointer (some ⟨pO, 0, none⟩), .agg y.cells.toArray] w fun e w' => e = .returned (.int .i64 (22)) ∧ Later w w' := by
  refine enter (vs := [.pointer (some ⟨pO, 0, none⟩), .agg y.cells.toArray]) Tryz.func17 rfl Tryz.ntmps17 rfl ?_
  refine w_seq ?_
  refine rg_text ?_
  refine x_box rfl rfl rfl rfl ?_
  intro p3
  refine x_val rfl rfl rfl (v_assign rfl) ?_
  refine x_end ?_
  refine t_norm ?_
  refine w_seq ?_
  refine w_seq ?_
  refine rg_text ?_
  refine x_val rfl rfl rfl (v_move rfl) ?_
  refine x_bool rfl rfl rfl (v_pnil (o := some ⟨pO, 0, none⟩) Tryz.underlying25 rfl rfl) ?_
  intro b9 hb9
  refine x_val rfl rfl rfl (v_move rfl) ?_
  refine x_if [] rfl rfl rfl rfl rfl (v := Value.agg y.cells.toArray) (fun hg => by obtain ⟨hg0, _⟩ := hg; subst hg0; (try simp only [List.cons_append, List.nil_append, gvl_nil, gvl_t, gvl_f]); exact v_load_blk (b := p3) (e := 35) (fz := (0, 0)) (cs := y.cells.toArray) Tryz.underlying35 rfl rfl (.head _) sz35) ?_
  refine x_call_ifb [] (c := writB y) rfl rfl rfl rfl rfl Tryz.func38 (by kernel_rfl) (fun hg => by obtain ⟨hg0, _⟩ := hg; subst hg0; (try simp only [List.cons_append, List.nil_append, gvl_nil, gvl_t, gvl_f]); refine ⟨_, rfl, ?_⟩; exact fun w1 hw1 => c_wrt y w1 hy (hL.later (hw1.base (by simp)))) ?_
  intro b12 hb12
  refine x_ifb [] rfl rfl rfl rfl rfl (fun hg => by obtain ⟨hg0, _⟩ := hg; subst hg0; (try simp only [List.cons_append, List.nil_append, gvl_nil, gvl_t, gvl_f]); exact v_not rfl) ?_
  intro b13 hb13
  refine x_bool rfl rfl rfl (v_or rfl rfl) ?_
  intro b14 hb14
  refine x_end ?_
  refine t_norm ?_
  refine w_cond rfl (fun hc14 => ?_) (fun hc14 => ?_)
  · exfalso
    rw [hb14, hb13, hb12, hb9, hw] at hc14
    revert hc14; simp
  · simp only [hb14, hb13, decide_eq_true_eq, decide_eq_false_iff_not, Bool.and_eq_true, Bool.or_eq_true, Bool.and_eq_false_iff, Bool.or_eq_false_iff, Bool.not_eq_true', Bool.not_eq_false', ne_eq, Decidable.not_not] at hc14
    refine w_skip ?_
    refine t_norm ?_
    refine w_seq ?_
    refine w_seq ?_
    refine rg_inv ([(p3, Obj.cells y.cells.toArray 35)]) 13 (.flt 0 (.flt 1 (.flt 2 (.flt 3 (.flt 4 (.flt 5 (.flt 6 (.flt 7 (.flt 8 (.flt 9 (.gr 10 (.gr 11 (.flt 12 .done) .nil) .nil))))))))))) (.refl _) (by kernel_rfl) (by kernel_rfl) ?_
    refine j_val rfl rfl (v_move rfl) ?_
    refine j_val rfl rfl (v_nilCheck rfl) ?_
    refine j_val rfl rfl (v_fieldAddr (off' := 2) Tryz.underlying58 rfl sz56 (by decide) rfl rfl) ?_
    refine j_val rfl rfl (v_load Tryz.underlying56 rfl rfl (at_ro (.head _) trivial h1)) ?_
    refine j_val rfl rfl (v_fieldAddr (off' := 0) Tryz.underlying35 rfl sz3 (by decide) rfl rfl) ?_
    refine j_val (v := Value.int .i64 7) rfl rfl (v_load Tryz.underlying3 rfl rfl (at_ownL (vs := y.cells) (.head _) (by show some (Value.int .i64 y.id) = _; rw [hy7]))) ?_
    refine j_val (v := Value.tuple #[orV x first, .bool true]) rfl rfl (v_lookup2H Tryz.underlying56 (Maps.int_keyed Tryz.underlying3) zr54 rfl rfl (Maps.keyOf_int_mk Tryz.underlying3 (by decide)) (map_ro (.head _) trivial h2) hO (by rw [fO_at]; rfl) (by rw [fO_at]; rfl)) ?_
    refine j_val rfl rfl (v_move rfl) ?_
    refine j_val rfl rfl (v_extract rfl rfl) ?_
    refine j_bool rfl rfl (v_extract rfl rfl) ?_
    intro b24 hb24
    refine j_gr ?_ j_nil
    refine x_alloc rfl rfl rfl zr54 ?_
    intro p5
    refine x_end ?_
    refine j_end (List.sublist_cons_self _ _) ?_
    refine j_gr ?_ j_nil
    refine x_store0 [] rfl rfl rfl rfl sz54 rfl rfl ?_
    refine x_end ?_
    refine j_end (List.sublist_cons_self _ _) ?_
    refine j_val rfl rfl (v_assign rfl) ?_
    refine j_done ?_
    refine x_end ?_
    refine t_norm ?_
    refine w_seq ?_
    refine rg_text ?_
    refine x_val rfl rfl rfl (v_move rfl) ?_
    refine x_end ?_
    refine t_norm ?_
    refine w_cond rfl (fun hc25 => ?_) (fun hc25 => ?_)
    · simp only [hb24, decide_eq_true_eq, decide_eq_false_iff_not, Bool.and_eq_true, Bool.or_eq_true, Bool.and_eq_false_iff, Bool.or_eq_false_iff, Bool.not_eq_true', Bool.not_eq_false', ne_eq, Decidable.not_not] at hc25
      refine w_seq ?_
      refine rg_text ?_
      refine x_val rfl rfl rfl (v_assign rfl) ?_
      refine x_end ?_
      refine t_norm ?_
      refine w_ret ?_
      refine t_ret ?_
      refine ret1 rfl rfl (fun w' hm => ⟨?_, hm.base (by simp)⟩)
      rfl
    · exfalso
      rw [hb24] at hc25
      revert hc25; simp
set_option maxRecDepth 100000 in
theorem c_Place0 {w : World} {L : List (Nat × Obj)} {ro : List Snap} {pX mF pF pO mO ckF : Nat} {esF : Array MapEntry} {money tol : Int} {f : FSt} (hm : Mem w ((pO, Obj.cells (orC pF tol mO).toArray 58) :: (mO, Obj.map #[] 0) :: (pX, Obj.cells (fxC f).toArray 88) :: (mF, Obj.map esF ckF) :: (pF, Obj.cells (fnC mF money).toArray 83) :: L) ro) (hF : MapF Tryz.prog 3 esF (fF pX)) (hok : fundOK f) {ws : World} (hws : (ws, fun _ => True) ∈ ro) (hL : LD ws) (y : PK.Ord) (hy : y.okA) (hw : writB y = true) (hy7 : y.id = 7) (hy2 : y.fund = 2) (hc : 1 ≤ y.copies ∧ y.copies ≤ 9999) (hp : 0 ≤ y.price ∧ y.price ≤ 999999999) (hfit : y.copies * y.price ≤ f.free) :
    Calls Tryz.prog 17 #[.pointer (some ⟨pO, 0, none⟩), .agg y.cells.toArray] w fun e w' => e = .returned (.int .i64 0) ∧ ∃ q : Array MapEntry × Nat, MapF Tryz.prog 3 q.1 (fO (some (placedO y, y.price))) ∧ Mem w' ((pO, Obj.cells (orC pF tol mO).toArray 58) :: (mO, Obj.map q.1 q.2) :: (pX, Obj.cells (fxC (encP f (y.copies * y.price)).2).toArray 88) :: (mF, Obj.map esF ckF) :: (pF, Obj.cells (fnC mF money).toArray 83) :: L) ro := by
  obtain ⟨⟨k1, k2⟩, _⟩ := ln_rng hc hp hp
  have henc : (encP f (y.copies * y.price)).1 = 0 := by unfold encP; rw [if_neg (by omega), if_neg (by omega)]
  refine enter_in hm (vs := [.pointer (some ⟨pO, 0, none⟩), .agg y.cells.toArray]) Tryz.func17 rfl Tryz.ntmps17 rfl ?_
  refine w_seq ?_
  refine rg_text ?_
  refine x_box rfl rfl rfl rfl ?_
  intro p3
  refine x_val rfl rfl rfl (v_assign rfl) ?_
  refine x_end ?_
  refine t_norm ?_
  refine w_seq ?_
  refine w_seq ?_
  refine rg_text ?_
  refine x_val rfl rfl rfl (v_move rfl) ?_
  refine x_bool rfl rfl rfl (v_pnil (o := some ⟨pO, 0, none⟩) Tryz.underlying25 rfl rfl) ?_
  intro b9 hb9
  refine x_val rfl rfl rfl (v_move rfl) ?_
  refine x_if [] rfl rfl rfl rfl rfl (v := Value.agg y.cells.toArray) (fun hg => by obtain ⟨hg0, _⟩ := hg; subst hg0; (try simp only [List.cons_append, List.nil_append, gvl_nil, gvl_t, gvl_f]); exact v_load_blk (b := p3) (e := 35) (fz := (0, 0)) (cs := y.cells.toArray) Tryz.underlying35 rfl rfl (.head _) sz35) ?_
  refine x_call_ifb [] (c := writB y) rfl rfl rfl rfl rfl Tryz.func38 (by kernel_rfl) (fun hg => by obtain ⟨hg0, _⟩ := hg; subst hg0; (try simp only [List.cons_append, List.nil_append, gvl_nil, gvl_t, gvl_f]); refine ⟨_, rfl, ?_⟩; exact fun w1 hw1 => c_wrt y w1 hy (hL.later (hw1.base (by first | exact hws | exact .tail _ hws | exact .tail _ (.tail _ hws) | exact .tail _ (.tail _ (.tail _ hws)))))) ?_
  intro b12 hb12
  refine x_ifb [] rfl rfl rfl rfl rfl (fun hg => by obtain ⟨hg0, _⟩ := hg; subst hg0; (try simp only [List.cons_append, List.nil_append, gvl_nil, gvl_t, gvl_f]); exact v_not rfl) ?_
  intro b13 hb13
  refine x_bool rfl rfl rfl (v_or rfl rfl) ?_
  intro b14 hb14
  refine x_end ?_
  refine t_norm ?_
  refine w_cond rfl (fun hc14 => ?_) (fun hc14 => ?_)
  · exfalso
    rw [hb14, hb13, hb12, hb9, hw] at hc14
    revert hc14; simp
  · simp only [hb14, hb13, decide_eq_true_eq, decide_eq_false_iff_not, Bool.and_eq_true, Bool.or_eq_true, Bool.and_eq_false_iff, Bool.or_eq_false_iff, Bool.not_eq_true', Bool.not_eq_false', ne_eq, Decidable.not_not] at hc14
    refine w_skip ?_
    refine t_norm ?_
    refine w_seq ?_
    refine w_seq ?_
    refine rg_inv ((p3, Obj.cells y.cells.toArray 35) :: (pO, Obj.cells (orC pF tol mO).toArray 58) :: (mO, Obj.map #[] 0) :: (pX, Obj.cells (fxC f).toArray 88) :: (mF, Obj.map esF ckF) :: (pF, Obj.cells (fnC mF money).toArray 83) :: L) 13 (.flt 0 (.flt 1 (.flt 2 (.flt 3 (.flt 4 (.flt 5 (.flt 6 (.flt 7 (.flt 8 (.flt 9 (.gr 10 (.gr 11 (.flt 12 .done) .nil) .nil))))))))))) (.refl _) (by kernel_rfl) (by kernel_rfl) ?_
    refine j_val rfl rfl (v_move rfl) ?_
    refine j_val rfl rfl (v_nilCheck rfl) ?_
    refine j_val rfl rfl (v_fieldAddr (off' := 2) Tryz.underlying58 rfl sz56 (by decide) rfl rfl) ?_
    refine j_val rfl rfl (v_load Tryz.underlying56 rfl rfl (at_ownL (vs := orC pF tol mO) (.tail _ (.head _)) rfl)) ?_
    refine j_val rfl rfl (v_fieldAddr (off' := 0) Tryz.underlying35 rfl sz3 (by decide) rfl rfl) ?_
    refine j_val (v := Value.int .i64 7) rfl rfl (v_load Tryz.underlying3 rfl rfl (at_ownL (vs := y.cells) (.head _) (by show some (Value.int .i64 y.id) = _; rw [hy7]))) ?_
    refine j_val (v := Value.tuple #[.agg (orC10 zeroO 0).toArray, .bool false]) rfl rfl (v_lookup2H Tryz.underlying56 (Maps.int_keyed Tryz.underlying3) zr54 rfl rfl (Maps.keyOf_int_mk Tryz.underlying3 (by decide)) (map_own (.tail _ (.tail _ (.head _)))) (MapF.empty (P := Tryz.prog) (kt := 3)) rfl rfl) ?_
    refine j_val rfl rfl (v_move rfl) ?_
    refine j_val rfl rfl (v_extract rfl rfl) ?_
    refine j_bool rfl rfl (v_extract rfl rfl) ?_
    intro b24 hb24
    refine j_gr ?_ j_nil
    refine x_alloc rfl rfl rfl zr54 ?_
    intro p5
    refine x_end ?_
    refine j_end (List.sublist_cons_self _ _) ?_
    refine j_gr ?_ j_nil
    refine x_store0 [] rfl rfl rfl rfl sz54 rfl rfl ?_
    refine x_end ?_
    refine j_end (List.sublist_cons_self _ _) ?_
    refine j_val rfl rfl (v_assign rfl) ?_
    refine j_done ?_
    refine x_end ?_
    refine t_norm ?_
    refine w_seq ?_
    refine rg_text ?_
    refine x_val rfl rfl rfl (v_move rfl) ?_
    refine x_end ?_
    refine t_norm ?_
    refine w_cond rfl (fun hc25 => ?_) (fun hc25 => ?_)
    · exfalso
      rw [hb24] at hc25
      revert hc25; simp
    · simp only [hb24, decide_eq_true_eq, decide_eq_false_iff_not, Bool.and_eq_true, Bool.or_eq_true, Bool.and_eq_false_iff, Bool.or_eq_false_iff, Bool.not_eq_true', Bool.not_eq_false', ne_eq, Decidable.not_not] at hc25
      refine w_skip ?_
      refine t_norm ?_
      refine w_seq ?_
      refine w_seq ?_
      refine rg_text ?_
      refine x_val rfl rfl rfl (v_move rfl) ?_
      refine x_val rfl rfl rfl (v_nilCheck rfl) ?_
      refine x_val rfl rfl rfl (v_fieldAddr (off' := 2) Tryz.underlying58 rfl sz56 (by decide) rfl rfl) ?_
      refine x_val rfl rfl rfl (v_load Tryz.underlying56 rfl rfl (at_ownL (vs := orC pF tol mO) (.tail _ (.tail _ (.head _))) rfl)) ?_
      refine x_val (v := Value.int .i64 ((0 : Nat) : Int)) rfl rfl rfl (v_len_map (es := #[]) (clock := 0) Tryz.underlying56 rfl (.tail _ (.tail _ (.tail _ (.head _))))) ?_
      refine x_bool rfl rfl rfl (v_geq rfl rfl) ?_
      intro b31 hb31
      refine x_end ?_
      refine t_norm ?_
      refine w_cond rfl (fun hc31 => ?_) (fun hc31 => ?_)
      · exfalso
        rw [hb31] at hc31
        revert hc31; simp
      · simp only [hb31, decide_eq_true_eq, decide_eq_false_iff_not, Bool.and_eq_true, Bool.or_eq_true, Bool.and_eq_false_iff, Bool.or_eq_false_iff, Bool.not_eq_true', Bool.not_eq_false', ne_eq, Decidable.not_not] at hc31
        refine w_skip ?_
        refine t_norm ?_
        refine w_seq ?_
        refine w_seq ?_
        refine rg_draw 11 [(true, 0), (true, 1), (true, 2), (true, 3), (true, 4), (true, 5), (true, 6), (true, 7), (true, 8), (true, 9), (true, 10)] (by kernel_rfl) (by kernel_rfl) ?_
        refine x_val rfl rfl rfl (v_move rfl) ?_
        refine x_val rfl rfl rfl (v_nilCheck rfl) ?_
        refine x_val rfl rfl rfl (v_fieldAddr (off' := 0) Tryz.underlying58 rfl sz26 (by decide) rfl rfl) ?_
        refine x_val rfl rfl rfl (v_load Tryz.underlying26 rfl rfl (at_ownL (vs := orC pF tol mO) (.tail _ (.tail _ (.head _))) rfl)) ?_
        refine x_val rfl rfl rfl (v_fieldAddr (off' := 1) Tryz.underlying35 rfl sz3 (by decide) rfl rfl) ?_
        refine x_val rfl rfl rfl (v_load Tryz.underlying3 rfl rfl (at_ownL (vs := y.cells) (.tail _ (.head _)) (by show some (Value.int .i64 y.fund) = some (Value.int .i64 2); rw [hy2]))) ?_
        refine x_val rfl rfl rfl (v_fieldAddr (off' := 4) Tryz.underlying35 rfl sz3 (by decide) rfl rfl) ?_
        refine x_val rfl rfl rfl (v_load Tryz.underlying3 rfl rfl (at_ownL (vs := y.cells) (.tail _ (.head _)) rfl)) ?_
        refine x_val rfl rfl rfl (v_fieldAddr (off' := 5) Tryz.underlying35 rfl sz3 (by decide) rfl rfl) ?_
        refine x_val rfl rfl rfl (v_load Tryz.underlying3 rfl rfl (at_ownL (vs := y.cells) (.tail _ (.head _)) rfl)) ?_
        refine x_val rfl rfl rfl (v_muli rfl rfl rfl (by first | omega | (dsimp only; omega))) ?_
        refine x_turnf (τ := Unit) (v := Value.int .i64 (encP f (y.copies * y.price)).1) (fun _ => True) (fun _ => (p5, Obj.cells (orC10 zeroO 0).toArray 54) :: (p3, Obj.cells y.cells.toArray 35) :: (pO, Obj.cells (orC pF tol mO).toArray 58) :: (mO, Obj.map #[] 0) :: (pX, Obj.cells (fxC (encP f (y.copies * y.price)).2).toArray 88) :: (mF, Obj.map esF ckF) :: (pF, Obj.cells (fnC mF money).toArray 83) :: L) rfl rfl Tryz.func25 (by kernel_rfl) rfl (fun w1 hw1 => c_Enc (l1 := [(p5, Obj.cells (orC10 zeroO 0).toArray 54), (p3, Obj.cells y.cells.toArray 35), (pO, Obj.cells (orC pF tol mO).toArray 58), (mO, Obj.map #[] 0)]) hw1 hF hok (y.copies * y.price)) ?_
        intro _ _
        refine x_val rfl rfl rfl (v_assign rfl) ?_
        refine x_end ?_
        refine t_norm ?_
        refine w_seq ?_
        refine rg_text ?_
        refine x_val rfl rfl rfl (v_move rfl) ?_
        refine x_bool rfl rfl rfl (v_neq rfl rfl) ?_
        intro b45 hb45
        refine x_end ?_
        refine t_norm ?_
        refine w_cond rfl (fun hc45 => ?_) (fun hc45 => ?_)
        · exfalso
          rw [hb45, henc] at hc45
          revert hc45; simp
        · simp only [hb45, decide_eq_true_eq, decide_eq_false_iff_not, Bool.and_eq_true, Bool.or_eq_true, Bool.and_eq_false_iff, Bool.or_eq_false_iff, Bool.not_eq_true', Bool.not_eq_false', ne_eq, Decidable.not_not] at hc45
          refine w_skip ?_
          refine t_norm ?_
          refine w_seq ?_
          refine rg_text ?_
          refine x_val rfl rfl rfl (v_fieldAddr (off' := 4) Tryz.underlying35 rfl sz3 (by decide) rfl rfl) ?_
          refine x_val rfl rfl rfl (v_load Tryz.underlying3 rfl rfl (at_ownL (vs := y.cells) (.tail _ (.head _)) rfl)) ?_
          refine x_val rfl rfl rfl (v_fieldAddr (off' := 6) Tryz.underlying35 rfl sz3 (by decide) rfl rfl) ?_
          refine x_store (cs := y.cells) (off := 6) (e := 35) (l2 := (pO, Obj.cells (orC pF tol mO).toArray 58) :: (mO, Obj.map #[] 0) :: (pX, Obj.cells (fxC (encP f (y.copies * y.price)).2).toArray 88) :: (mF, Obj.map esF ckF) :: (pF, Obj.cells (fnC mF money).toArray 83) :: L) [(p5, Obj.cells (orC10 zeroO 0).toArray 54)] rfl rfl rfl rfl sz3 rfl (by show 7 ≤ 9; decide) ?_
          refine x_val rfl rfl rfl (v_fieldAddr (off' := 7) Tryz.underlying35 rfl sz3 (by decide) rfl rfl) ?_
          refine x_store (cs := PK.Ord.cells { y with prom := y.copies }) (off := 7) (e := 35) (l2 := (pO, Obj.cells (orC pF tol mO).toArray 58) :: (mO, Obj.map #[] 0) :: (pX, Obj.cells (fxC (encP f (y.copies * y.price)).2).toArray 88) :: (mF, Obj.map esF ckF) :: (pF, Obj.cells (fnC mF money).toArray 83) :: L) [(p5, Obj.cells (orC10 zeroO 0).toArray 54)] rfl rfl rfl rfl sz3 rfl (by show 8 ≤ 9; decide) ?_
          refine x_val rfl rfl rfl (v_fieldAddr (off' := 8) Tryz.underlying35 rfl sz3 (by decide) rfl rfl) ?_
          refine x_store (cs := PK.Ord.cells { y with prom := y.copies, paid := 0 }) (off := 8) (e := 35) (l2 := (pO, Obj.cells (orC pF tol mO).toArray 58) :: (mO, Obj.map #[] 0) :: (pX, Obj.cells (fxC (encP f (y.copies * y.price)).2).toArray 88) :: (mF, Obj.map esF ckF) :: (pF, Obj.cells (fnC mF money).toArray 83) :: L) [(p5, Obj.cells (orC10 zeroO 0).toArray 54)] rfl rfl rfl rfl sz3 rfl (by show 9 ≤ 9; decide) ?_
          refine x_end ?_
          refine t_norm ?_
          refine w_seq ?_
          refine w_state _ ((p5, Obj.cells (orC10 zeroO 0).toArray 54) :: (p3, Obj.cells (placedO y).cells.toArray 35) :: (pO, Obj.cells (orC pF tol mO).toArray 58) :: (mO, Obj.map #[] 0) :: (pX, Obj.cells (fxC (encP f (y.copies * y.price)).2).toArray 88) :: (mF, Obj.map esF ckF) :: (pF, Obj.cells (fnC mF money).toArray 83) :: L) _ ?_
          refine rg_text ?_
          refine x_val rfl rfl rfl (v_move rfl) ?_
          refine x_val rfl rfl rfl (v_load_blk (e := 35) (fz := (0, 0)) (cs := (placedO y).cells.toArray) Tryz.underlying35 rfl rfl (.tail _ (.head _)) sz35) ?_
          refine x_val rfl rfl rfl (v_fieldAddr (off' := 5) Tryz.underlying35 rfl sz3 (by decide) rfl rfl) ?_
          refine x_val rfl rfl rfl (v_load Tryz.underlying3 rfl rfl (at_ownL (vs := (placedO y).cells) (.tail _ (.head _)) rfl)) ?_
          refine x_val (v := Value.agg (orC10 (placedO y) y.price).toArray) rfl rfl rfl (v_buildL (cs := orC10 (placedO y) y.price) (places := [(0, 9), (9, 1)]) Tryz.underlying54 zr54 (by kernel_rfl) rfl rfl) ?_
          refine x_turnf (τ := Array MapEntry × Nat) (v := Value.tuple #[]) (fun q => MapF Tryz.prog 3 q.1 (fO (some ((placedO y), y.price)))) (fun q => [(p5, Obj.cells (orC10 zeroO 0).toArray 54), (p3, Obj.cells (placedO y).cells.toArray 35)] ++ (pO, Obj.cells (orC pF tol mO).toArray 58) :: (mO, Obj.map q.1 q.2) :: (pX, Obj.cells (fxC (encP f (y.copies * y.price)).2).toArray 88) :: (mF, Obj.map esF ckF) :: (pF, Obj.cells (fnC mF money).toArray 83) :: L) rfl rfl Tryz.func27 (by kernel_rfl) rfl (fun w1 hw1 => c_Oput (ck := 0) (es := #[]) (l1 := [(p5, Obj.cells (orC10 zeroO 0).toArray 54), (p3, Obj.cells (placedO y).cells.toArray 35)]) (placedO y) y.price hw1 (x := none) (MapF.empty (P := Tryz.prog) (kt := 3)) hy7) ?_
          intro q57 hq57
          refine x_end ?_
          refine t_norm ?_
          refine w_seq ?_
          refine rg_text ?_
          refine x_val rfl rfl rfl (v_assign rfl) ?_
          refine x_end ?_
          refine t_norm ?_
          refine w_ret ?_
          exact ret1 rfl rfl (fun w' hm' => ⟨rfl, q57, hq57, hm'.less ((List.sublist_cons_self _ _).trans (List.sublist_cons_self _ _)) (fun _ h => h)⟩)

end Go.Proofs.YtdampedpgbnihaaGreatDoor

namespace Go.Proofs.YtdampedpgbnihaaGreatDoor
open Go.RowKit Go.PK
set_option linter.unusedVariables false
set_option linter.unusedSimpArgs false
def yO (n r : Int) : PK.Ord := ⟨7, 2, 1, 5, n, r, 0, 0, 0⟩
def yB (n r : Int) : PK.Ord := ⟨7, 0, 1, 5, n, r, 0, 0, 0⟩
def ansT (n r : Int) : ByteArray := ⟨(wrT (orderR (yO n r))).toArray⟩
def bilT (n r : Int) : ByteArray := ⟨(wrT (invR [yB n r])).toArray⟩
theorem yO_w {n r : Int} (hn : 1 ≤ n ∧ n ≤ 9999) (hr : 0 ≤ r ∧ r ≤ 999999999) : writB (yO n r) = true := (writB_iff _).2 ⟨by show (1 : Int) ≤ 7 ∧ (7 : Int) ≤ 999999999; decide, by show (1 : Int) ≤ 2 ∧ (2 : Int) ≤ 999999999; decide, by show (0 : Int) ≤ 1 ∧ (1 : Int) ≤ 999999999; decide, by show (0 : Int) ≤ 5 ∧ (5 : Int) ≤ 999999999; decide, hr, hn⟩
theorem yB_w {n r : Int} (hn : 1 ≤ n ∧ n ≤ 9999) (hr : 0 ≤ r ∧ r ≤ 999999999) : wrO (pf (yB n r)) := ⟨by show (1 : Int) ≤ 7 ∧ (7 : Int) ≤ 999999999; decide, by show (1 : Int) ≤ 1 ∧ (1 : Int) ≤ 999999999; decide, by show (0 : Int) ≤ 1 ∧ (1 : Int) ≤ 999999999; decide, by show (0 : Int) ≤ 5 ∧ (5 : Int) ≤ 999999999; decide, hr, hn⟩
theorem yO_A {n r : Int} (hn : 1 ≤ n ∧ n ≤ 9999) (hr : 0 ≤ r ∧ r ≤ 999999999) : (yO n r).okA := by
  refine ⟨⟨?_, ?_, ?_, ?_, ?_, ?_⟩, ?_, ?_, ?_⟩ <;> (unfold yO in64; dsimp only; omega)
theorem yB_A {n r : Int} (hn : 1 ≤ n ∧ n ≤ 9999) (hr : 0 ≤ r ∧ r ≤ 999999999) : (yB n r).okA := by
  refine ⟨⟨?_, ?_, ?_, ?_, ?_, ?_⟩, ?_, ?_, ?_⟩ <;> (unfold yB in64; dsimp only; omega)
theorem ans_facts {n r : Int} (hn : 1 ≤ n ∧ n ≤ 9999) (hr : 0 ≤ r ∧ r ≤ 999999999) : wrR (orderR (yO n r)) = (ansT n r, 0) ∧ (ansT n r).size ≤ 200000000 ∧ (parR (ansT n r)).2.2 = 0 ∧ bigO (parR (ansT n r)).1 ∧ rdO (parR (ansT n r)).1 = (yO n r, 0) := by
  obtain ⟨h1, h2, h3⟩ := fine_text (l := orderR (yO n r)) (Nat.le_trans (by unfold orderR; split <;> simp [orderP]) (by decide : 7 ≤ 60)) (order_fine (yO_w hn hr))
  refine ⟨h1, h2, ?_, ?_, ?_⟩
  · show (parR ⟨_⟩).2.2 = 0; rw [h3]
  · show bigO (parR ⟨_⟩).1; rw [h3]; exact order_big _
  · show rdO (parR ⟨_⟩).1 = _; rw [h3]; show rdO (orderR (yO n r)) = _; rw [rdO_order, if_pos (yO_w hn hr)]; rfl
theorem bil_facts {n r : Int} (hn : 1 ≤ n ∧ n ≤ 9999) (hr : 0 ≤ r ∧ r ≤ 999999999) : wrR (invR [yB n r]) = (bilT n r, 0) ∧ (bilT n r).size ≤ 200000000 ∧ (parR (bilT n r)).2.2 = 0 ∧ bigO (parR (bilT n r)).1 ∧ rdI (parR (bilT n r)).1 = ([yB n r], 0) := by
  obtain ⟨hp, hf⟩ := bill_fine (yB_w hn hr)
  obtain ⟨h1, h2, h3⟩ := fine_text (l := invR [yB n r]) (by unfold invR; rw [if_pos hp, withX_len]; show 4 * 1 + 5 ≤ 60; decide) hf
  refine ⟨h1, h2, ?_, ?_, ?_⟩
  · show (parR ⟨_⟩).2.2 = 0; rw [h3]
  · show bigO (parR ⟨_⟩).1; rw [h3]; exact invR_big _
  · show rdI (parR ⟨_⟩).1 = _; rw [h3]; show rdI (invR [yB n r]) = _; rw [rdI_inv, if_pos hp]; rfl
set_option maxRecDepth 100000 in
theorem c_ans (n r : Int) (w : World) (hn : 1 ≤ n ∧ n ≤ 9999) (hr : 0 ≤ r ∧ r ≤ 999999999) :
    Calls Tryz.prog 10 #[.int .i64 n, .int .i64 r] w fun e w' => e = .returned (.string (ansT n r)) ∧ Later w w' := by
  refine enter (vs := [.int .i64 n, .int .i64 r]) Tryz.func10 rfl Tryz.ntmps10 rfl ?_
  refine w_seq ?_
  refine rg_text ?_
  refine x_val rfl rfl rfl (v_assign rfl) ?_
  refine x_end ?_
  refine t_norm ?_
  refine w_seq ?_
  refine rg_text ?_
  refine x_val (v := Value.agg #[.int .i64 1, .int .i64 5]) rfl rfl rfl (v_buildL (cs := [.int .i64 1, .int .i64 5]) (places := [(0, 1), (1, 1)]) Tryz.underlying33 zr33 (by kernel_rfl) rfl rfl) ?_
  refine x_val rfl rfl rfl (v_move rfl) ?_
  refine x_val rfl rfl rfl (v_move rfl) ?_
  refine x_val (v := Value.agg (yO n r).cells.toArray) rfl rfl rfl (v_buildL (cs := (yO n r).cells) (places := [(0, 1), (1, 1), (2, 2), (4, 1), (5, 1), (6, 1), (7, 1), (8, 1)]) Tryz.underlying35 zr35 (by kernel_rfl) rfl rfl) ?_
  refine x_call (R := fun v wa wb => sliceRd tySeg (fun b => wa.heap.size ≤ b) wb v (orderR (yO n r))) rfl rfl rfl Tryz.func29 (by kernel_rfl) rfl (fun w1 hw1 => (c_rOrder (yO n r) w1 (yO_A hn hr).1).mono fun e w2 ⟨v, h1, h2, h3, _⟩ => ⟨_, h1, h2, h3⟩) ?_
  intro v12 wa12 wb12 hm12 hl12 hR12
  refine x_callv (v := Value.tuple #[.string (ansT n r), .int .i64 0]) rfl rfl rfl Tryz.func28 (by kernel_rfl) rfl (fun w1 hw1 => by
    have h := c_rWrite (l := orderR (yO n r)) w1 (keep_new hR12 hw1 (by repeat (first | exact List.Mem.head _ | apply List.Mem.tail)) hm12) (by have := (ans_facts hn hr).2.1; unfold ansT at this; have h2 : (wrT (orderR (yO n r))).toArray.size ≤ 200000000 := this; rw [List.size_toArray] at h2; omega)
    rw [(ans_facts hn hr).1] at h; exact h) ?_
  refine x_val rfl rfl rfl (v_move rfl) ?_
  refine x_val rfl rfl rfl (v_extract rfl rfl) ?_
  refine x_val rfl rfl rfl (v_extract rfl rfl) ?_
  refine x_val rfl rfl rfl (v_assign rfl) ?_
  refine x_val rfl rfl rfl (v_assign rfl) ?_
  refine x_end ?_
  refine t_norm ?_
  refine w_seq ?_
  refine rg_text ?_
  refine x_val rfl rfl rfl (v_move rfl) ?_
  refine x_val rfl rfl rfl (v_assign rfl) ?_
  refine x_end ?_
  refine t_norm ?_
  refine w_ret ?_
  refine ret1 rfl rfl (fun w' hm => ⟨?_, hm.base (by simp)⟩)
  rfl
set_option maxRecDepth 100000 in
theorem c_bil (n r : Int) (w : World) (hn : 1 ≤ n ∧ n ≤ 9999) (hr : 0 ≤ r ∧ r ≤ 999999999) :
    Calls Tryz.prog 15 #[.int .i64 n, .int .i64 r] w fun e w' => e = .returned (.string (bilT n r)) ∧ Later w w' := by
  refine enter (vs := [.int .i64 n, .int .i64 r]) Tryz.func15 rfl Tryz.ntmps15 rfl ?_
  refine w_seq ?_
  refine rg_text ?_
  refine x_val rfl rfl rfl (v_assign rfl) ?_
  refine x_end ?_
  refine t_norm ?_
  refine w_seq ?_
  refine rg_text ?_
  refine x_val (v := Value.agg #[.int .i64 1, .int .i64 5]) rfl rfl rfl (v_buildL (cs := [.int .i64 1, .int .i64 5]) (places := [(0, 1), (1, 1)]) Tryz.underlying33 zr33 (by kernel_rfl) rfl rfl) ?_
  refine x_val rfl rfl rfl (v_move rfl) ?_
  refine x_val rfl rfl rfl (v_move rfl) ?_
  refine x_val (v := Value.agg (yB n r).cells.toArray) rfl rfl rfl (v_buildL (cs := (yB n r).cells) (places := [(0, 1), (1, 1), (2, 2), (4, 1), (5, 1), (6, 1), (7, 1), (8, 1)]) Tryz.underlying35 zr35 (by kernel_rfl) rfl rfl) ?_
  refine x_buildSliceL (cs := (yB n r).cells) rfl rfl rfl Tryz.underlying70 sz35 zr35 rfl rfl rfl ?_
  intro p12
  have hT1 : RowT tyOrd (fun _ => False) w (some (p12, (yB n r).cells, 1)) [yB n r] := ⟨[(yB n r).cells], rfl, rowOK_lit (b := p12) (cs := (yB n r).cells) (n := 1) rfl (by decide), fun j h1 h2 => by match j, h1 with | 0, _ => exact ⟨rfl, yB_A hn hr⟩⟩
  refine x_call (R := fun v wa wb => sliceRd tySeg (fun b => wa.heap.size ≤ b) wb v (invR [yB n r])) rfl rfl rfl Tryz.func37 (by kernel_rfl) rfl (fun w1 hw1 => (c_rInvoice (ls := [yB n r]) w1 (hT1.any (D' := fun _ => True) (e := 35) (v := 1) hw1 (fun p hp => hp) (fun _ _ => trivial) rfl)).mono fun e w2 ⟨v, h1, h2, h3⟩ => ⟨_, h1, h2, h3⟩) ?_
  intro v13 wa13 wb13 hm13 hl13 hR13
  refine x_callv (v := Value.tuple #[.string (bilT n r), .int .i64 0]) rfl rfl rfl Tryz.func28 (by kernel_rfl) rfl (fun w1 hw1 => by
    have h := c_rWrite (l := invR [yB n r]) w1 (keep_new hR13 hw1 (by repeat (first | exact List.Mem.head _ | apply List.Mem.tail)) hm13) (by have := (bil_facts hn hr).2.1; unfold bilT at this; have h2 : (wrT (invR [yB n r])).toArray.size ≤ 200000000 := this; rw [List.size_toArray] at h2; omega)
    rw [(bil_facts hn hr).1] at h; exact h) ?_
  refine x_val rfl rfl rfl (v_move rfl) ?_
  refine x_val rfl rfl rfl (v_extract rfl rfl) ?_
  refine x_val rfl rfl rfl (v_extract rfl rfl) ?_
  refine x_val rfl rfl rfl (v_assign rfl) ?_
  refine x_val rfl rfl rfl (v_assign rfl) ?_
  refine x_end ?_
  refine t_norm ?_
  refine w_seq ?_
  refine rg_text ?_
  refine x_val rfl rfl rfl (v_move rfl) ?_
  refine x_val rfl rfl rfl (v_assign rfl) ?_
  refine x_end ?_
  refine t_norm ?_
  refine w_ret ?_
  refine ret1 rfl rfl (fun w' hm => ⟨?_, hm.base (by simp)⟩)
  rfl
set_option maxRecDepth 100000 in
theorem c_has {pX mF pF : Nat} {esF : Array MapEntry} {ckF : Nat} {f : FSt} (w : World) (h1 : w.cell? ⟨pF, 0, none⟩ = some (.map (some mF))) (h2 : w.heap[mF]? = some (.map esF ckF)) (hF : MapF Tryz.prog 3 esF (fF pX)) (hX : ∀ i v, (fxC f)[i]? = some v → w.cell? ⟨pX, i, none⟩ = some v) (p q : Int) :
    Calls Tryz.prog 12 #[.pointer (some ⟨pF, 0, none⟩), .int .i64 p, .int .i64 q] w fun e w' => e = .returned (.bool (decide (f.en = p) && decide (f.sp = q))) ∧ Later w w' := by
  refine enter (vs := [.pointer (some ⟨pF, 0, none⟩), .int .i64 p, .int .i64 q]) Tryz.func12 rfl Tryz.ntmps12 rfl ?_
  refine w_seq ?_
  refine rg_text ?_
  refine x_val rfl rfl rfl (v_assign rfl) ?_
  refine x_end ?_
  refine t_norm ?_
  refine w_seq ?_
  refine rg_text ?_
  refine x_val rfl rfl rfl (v_move rfl) ?_
  refine x_callv (v := Value.tuple #[.agg ((fxC f).take 5).toArray, .bool true]) rfl rfl rfl Tryz.func30 (by kernel_rfl) rfl (fun w1 hw1 => c_Fund (f := f) w1 (at_ro (.head _) trivial h1 w1 hw1) ((hw1.ro_at _ (.head _) mF trivial (heap_lt h2)).trans h2) hF (fun i v hv => at_ro (.head _) trivial (hX i v hv) w1 hw1)) ?_
  refine x_val rfl rfl rfl (v_move rfl) ?_
  refine x_val rfl rfl rfl (v_extract rfl rfl) ?_
  refine x_bool rfl rfl rfl (v_extract rfl rfl) ?_
  intro b13 hb13
  refine x_alloc rfl rfl rfl zr67 ?_
  intro p7
  refine x_store0 [] rfl rfl rfl rfl sz67 rfl rfl ?_
  refine x_val rfl rfl rfl (v_assign rfl) ?_
  refine x_end ?_
  refine t_norm ?_
  refine w_seq ?_
  refine rg_text ?_
  refine x_val rfl rfl rfl (v_move rfl) ?_
  refine x_val rfl rfl rfl (v_move rfl) ?_
  refine x_if [] rfl rfl rfl rfl rfl (fun hg => by obtain ⟨hg0, _⟩ := hg; subst hg0; (try simp only [List.cons_append, List.nil_append, gvl_nil, gvl_t, gvl_f]); exact v_fieldAddr (off' := 4) Tryz.underlying67 rfl sz3 (by decide) rfl rfl) ?_
  refine x_if [] rfl rfl rfl rfl rfl (fun hg => by obtain ⟨hg0, _⟩ := hg; subst hg0; (try simp only [List.cons_append, List.nil_append, gvl_nil, gvl_t, gvl_f]); exact v_load Tryz.underlying3 rfl rfl (at_ownL (vs := (fxC f).take 5) (.head _) rfl)) ?_
  refine x_if [] rfl rfl rfl rfl rfl (fun hg => by obtain ⟨hg0, _⟩ := hg; subst hg0; (try simp only [List.cons_append, List.nil_append, gvl_nil, gvl_t, gvl_f]); exact v_move rfl) ?_
  refine x_ifb [] rfl rfl rfl rfl rfl (fun hg => by obtain ⟨hg0, _⟩ := hg; subst hg0; (try simp only [List.cons_append, List.nil_append, gvl_nil, gvl_t, gvl_f]); exact v_eql rfl rfl) ?_
  intro b19 hb19
  refine x_bool rfl rfl rfl (v_and rfl rfl) ?_
  intro b20 hb20
  refine x_val rfl rfl rfl (v_move rfl) ?_
  refine x_if [] rfl rfl rfl rfl rfl (fun hg => by obtain ⟨hg0, _⟩ := hg; subst hg0; (try simp only [List.cons_append, List.nil_append, gvl_nil, gvl_t, gvl_f]); exact v_fieldAddr (off' := 3) Tryz.underlying67 rfl sz3 (by decide) rfl rfl) ?_
  refine x_if [] rfl rfl rfl rfl rfl (fun hg => by obtain ⟨hg0, _⟩ := hg; subst hg0; (try simp only [List.cons_append, List.nil_append, gvl_nil, gvl_t, gvl_f]); exact v_load Tryz.underlying3 rfl rfl (at_ownL (vs := (fxC f).take 5) (.head _) rfl)) ?_
  refine x_if [] rfl rfl rfl rfl rfl (fun hg => by obtain ⟨hg0, _⟩ := hg; subst hg0; (try simp only [List.cons_append, List.nil_append, gvl_nil, gvl_t, gvl_f]); exact v_move rfl) ?_
  refine x_ifb [] rfl rfl rfl rfl rfl (fun hg => by obtain ⟨hg0, _⟩ := hg; subst hg0; (try simp only [List.cons_append, List.nil_append, gvl_nil, gvl_t, gvl_f]); exact v_eql rfl rfl) ?_
  intro b25 hb25
  refine x_bool rfl rfl rfl (v_and rfl rfl) ?_
  intro b26 hb26
  refine x_val rfl rfl rfl (v_assign rfl) ?_
  refine x_end ?_
  refine t_norm ?_
  refine w_ret ?_
  refine ret1 rfl rfl (fun w' hm => ⟨?_, hm.base (by simp)⟩)
  rw [hb26, hb25, hb20, hb19, hb13]; rfl
set_option maxRecDepth 100000 in
theorem c_Md (n m : Int) (w : World) (hn : in64 n) (hmm : 0 < m ∧ m ≤ 4000000000) :
    Calls Tryz.prog 7 #[.int .i64 n, .int .i64 m] w fun e w' => e = .returned (.int .i64 (n % m)) ∧ Later w w' := by
  refine enter (vs := [.int .i64 n, .int .i64 m]) Tryz.func7 rfl Tryz.ntmps7 rfl ?_
  refine w_seq ?_
  refine rg_text ?_
  refine x_val rfl rfl rfl (v_assign rfl) ?_
  refine x_end ?_
  refine t_norm ?_
  refine w_seq ?_
  refine rg_text ?_
  refine x_val rfl rfl rfl (v_move rfl) ?_
  refine x_val rfl rfl rfl (v_move rfl) ?_
  refine x_val rfl rfl rfl (v_rem rfl rfl (by omega)) ?_
  refine x_val rfl rfl rfl (v_move rfl) ?_
  refine x_val rfl rfl rfl (v_addi (c := n.tmod m + m) rfl rfl rfl (by have := tmod_bd n m hmm.1; omega)) ?_
  refine x_val rfl rfl rfl (v_move rfl) ?_
  refine x_val rfl rfl rfl (v_rem rfl rfl (by omega)) ?_
  refine x_val rfl rfl rfl (v_assign rfl) ?_
  refine x_end ?_
  refine t_norm ?_
  refine w_ret ?_
  refine ret1 rfl rfl (fun w' hm => ⟨?_, hm.base (by simp)⟩)
  rw [tmodN hmm.1]
set_option maxRecDepth 100000 in
theorem c_One (am t p : Int) (w : World) (hL : LD w) (hp : 0 ≤ p ∧ p ≤ 20000) (ham : 3 * p ≤ am ∧ am ≤ 1000000) :
    Calls Tryz.prog 8 #[.int .i64 am, .int .i64 t, .int .i64 p] w fun e w' => ∃ x : Nat × Nat × Nat × Nat × Nat × Array MapEntry × Nat × Array MapEntry × Nat, e = .returned (.tuple #[.pointer (some ⟨x.2.2.2.1, 0, none⟩), .pointer (some ⟨x.2.2.1, 0, none⟩), .int .i64 0]) ∧ (MapF Tryz.prog 3 x.2.2.2.2.2.1 (fF x.1) ∧ MapF Tryz.prog 3 x.2.2.2.2.2.2.2.1 (fO (some ((placedO (yO 3 p)), p)))) ∧ Mem w' ((x.2.2.2.1, Obj.cells (orC x.2.2.1 (min (max t 0) 1000000) x.2.2.2.2.1).toArray 58) :: (x.2.2.2.2.1, Obj.map x.2.2.2.2.2.2.2.1 x.2.2.2.2.2.2.2.2) :: (x.1, Obj.cells (fxC ⟨am, 0, 3 * p⟩).toArray 88) :: (x.2.1, Obj.map x.2.2.2.2.2.1 x.2.2.2.2.2.2.1) :: (x.2.2.1, Obj.cells (fnC x.2.1 am).toArray 83) :: []) [(w, fun _ => True)] := by
  refine enter (vs := [.int .i64 am, .int .i64 t, .int .i64 p]) Tryz.func8 rfl Tryz.ntmps8 rfl ?_
  refine w_seq ?_
  refine rg_text ?_
  refine x_val rfl rfl rfl (v_assign rfl) ?_
  refine x_val rfl rfl rfl (v_assign rfl) ?_
  refine x_val rfl rfl rfl (v_assign rfl) ?_
  refine x_end ?_
  refine t_norm ?_
  refine w_seq ?_
  refine rg_text ?_
  refine x_own (τ := Nat) (fun pF => Value.pointer (some ⟨pF, 0, none⟩)) (fun _ => True) (fun pF => [(pF, Obj.cells [Value.map none, .int .i64 0].toArray 83)]) rfl rfl rfl Tryz.func18 (by kernel_rfl) rfl (fun w1 hw1 => (c_FNew w1).mono fun e w2 ⟨pF, h1, h2⟩ => ⟨pF, h1, h2.base (by simp), trivial, hw1.join h2⟩) ?_
  intro pF _
  refine x_val rfl rfl rfl (v_assign rfl) ?_
  refine x_end ?_
  refine t_norm ?_
  refine w_seq ?_
  refine rg_text ?_
  refine x_val rfl rfl rfl (v_move rfl) ?_
  refine x_val rfl rfl rfl (v_move rfl) ?_
  refine x_turnf (τ := Nat × Nat × Array MapEntry × Nat) (v := Value.int .i64 0) (fun x => MapF Tryz.prog 3 x.2.2.1 (fF x.1)) (fun x => (x.1, Obj.cells (fxC ⟨am, 0, 0⟩).toArray 88) :: (x.2.1, Obj.map x.2.2.1 x.2.2.2) :: (pF, Obj.cells (fnC x.2.1 am).toArray 83) :: []) rfl rfl Tryz.func19 (by kernel_rfl) rfl (fun w1 hw1 => c_FAdd (L := []) am hw1 (by omega)) ?_
  rintro ⟨pX, mF, esF, ckF⟩ hF
  dsimp only at hF
  refine x_end ?_
  refine t_norm ?_
  refine w_seq ?_
  refine rg_text ?_
  refine x_val rfl rfl rfl (v_move rfl) ?_
  refine x_val rfl rfl rfl (v_move rfl) ?_
  refine x_own (τ := Nat × Nat) (fun x => Value.pointer (some ⟨x.1, 0, none⟩)) (fun _ => True) (fun x => [(x.1, Obj.cells (orC pF (min (max t 0) 1000000) x.2).toArray 58), (x.2, Obj.map #[] 0)] ++ (pX, Obj.cells (fxC ⟨am, 0, 0⟩).toArray 88) :: (mF, Obj.map esF ckF) :: (pF, Obj.cells (fnC mF am).toArray 83) :: []) rfl rfl rfl Tryz.func20 (by kernel_rfl) rfl (fun w1 hw1 => (c_ONew t w1).mono fun e w2 ⟨x, h1, h2⟩ => ⟨x, h1, h2.base (by simp), trivial, hw1.join2 h2⟩) ?_
  rintro ⟨pO, mO⟩ _
  refine x_val rfl rfl rfl (v_assign rfl) ?_
  refine x_end ?_
  refine t_norm ?_
  refine w_seq ?_
  refine rg_text ?_
  refine x_val rfl rfl rfl (v_move rfl) ?_
  refine x_val rfl rfl rfl (v_move rfl) ?_
  refine x_val rfl rfl rfl (v_move rfl) ?_
  refine x_val (v := Value.agg #[.int .i64 1, .int .i64 5]) rfl rfl rfl (v_buildL (cs := [.int .i64 1, .int .i64 5]) (places := [(0, 1), (1, 1)]) Tryz.underlying33 zr33 (by kernel_rfl) rfl rfl) ?_
  refine x_val rfl rfl rfl (v_move rfl) ?_
  refine x_val (v := Value.agg (yO 3 p).cells.toArray) rfl rfl rfl (v_buildL (cs := (yO 3 p).cells) (places := [(0, 1), (1, 1), (2, 2), (4, 1), (5, 1), (6, 1), (7, 1), (8, 1)]) Tryz.underlying35 zr35 (by kernel_rfl) rfl rfl) ?_
  refine x_turnf (τ := Array MapEntry × Nat) (v := Value.int .i64 0) (fun q => MapF Tryz.prog 3 q.1 (fO (some ((placedO (yO 3 p)), p)))) (fun q => (pO, Obj.cells (orC pF (min (max t 0) 1000000) mO).toArray 58) :: (mO, Obj.map q.1 q.2) :: (pX, Obj.cells (fxC ⟨am, 0, 3 * p⟩).toArray 88) :: (mF, Obj.map esF ckF) :: (pF, Obj.cells (fnC mF am).toArray 83) :: []) rfl rfl Tryz.func17 (by kernel_rfl) rfl (fun w1 hw1 => by
    have h := c_Place0 (L := []) (f := ⟨am, 0, 0⟩) hw1 hF ⟨Int.le_refl 0, Int.le_refl 0, by show 0 + 0 ≤ am; omega, by show am ≤ _; omega⟩ (by simp) hL (yO 3 p) (yO_A (by decide) (by omega)) (yO_w (by decide) (by omega)) rfl rfl ⟨by show (1 : Int) ≤ 3; decide, by show (3 : Int) ≤ 9999; decide⟩ ⟨hp.1, by show p ≤ _; omega⟩ (by show 3 * p ≤ am - 0 - 0; omega)
    have hf : (encP ⟨am, 0, 0⟩ ((yO 3 p).copies * (yO 3 p).price)).2 = ⟨am, 0, 3 * p⟩ := by
      show (encP ⟨am, 0, 0⟩ (3 * p)).2 = _
      unfold encP FSt.free; dsimp only; rw [if_neg (by omega), if_neg (by omega), show (0 : Int) + 3 * p = 3 * p by omega]
    rw [hf] at h; exact h) ?_
  rintro ⟨esO, ckO⟩ hO
  dsimp only at hO
  refine x_val rfl rfl rfl (v_assign rfl) ?_
  refine x_val rfl rfl rfl (v_assign rfl) ?_
  refine x_val rfl rfl rfl (v_assign rfl) ?_
  refine x_end ?_
  refine t_norm ?_
  refine w_ret ?_
  exact ret3 rfl rfl rfl rfl (fun w' hm => ⟨(pX, mF, pF, pO, mO, esF, ckF, esO, ckO), rfl, ⟨hF, hO⟩, hm⟩)

end Go.Proofs.YtdampedpgbnihaaGreatDoor

namespace Go.Proofs.YtdampedpgbnihaaGreatDoor
open Go.RowKit Go.PK
set_option linter.unusedVariables false
set_option linter.unusedSimpArgs false
set_option maxHeartbeats 4000000 in
set_option maxRecDepth 100000 in
theorem c_sane (w : World) (hL : LD w) :
    Calls Tryz.prog 6 #[] w fun e w' => e = .returned (.bool (true)) ∧ Later w w' := by
  refine enter (vs := []) Tryz.func6 rfl Tryz.ntmps6 rfl ?_
  refine w_seq ?_
  refine rg_text ?_
  refine x_val rfl rfl rfl (v_assign rfl) ?_
  refine x_end ?_
  refine t_norm ?_
  refine w_seq ?_
  refine rg_text ?_
  refine x_own (τ := Nat × Nat × Nat × Nat × Nat × Array MapEntry × Nat × Array MapEntry × Nat) (fun x => .tuple #[.pointer (some ⟨x.2.2.2.1, 0, none⟩), .pointer (some ⟨x.2.2.1, 0, none⟩), .int .i64 0]) (fun x => MapF Tryz.prog 3 x.2.2.2.2.2.1 (fF x.1) ∧ MapF Tryz.prog 3 x.2.2.2.2.2.2.2.1 (fO (some ((placedO (yO 3 1000)), 1000)))) (fun x => (x.2.2.2.1, Obj.cells (orC x.2.2.1 (min (max 50 0) 1000000) x.2.2.2.2.1).toArray 58) :: (x.2.2.2.2.1, Obj.map x.2.2.2.2.2.2.2.1 x.2.2.2.2.2.2.2.2) :: (x.1, Obj.cells (fxC ⟨10000, 0, 3 * 1000⟩).toArray 88) :: (x.2.1, Obj.map x.2.2.2.2.2.1 x.2.2.2.2.2.2.1) :: (x.2.2.1, Obj.cells (fnC x.2.1 10000).toArray 83) :: []) rfl rfl rfl Tryz.func8 (by kernel_rfl) rfl (fun w1 hw1 => (c_One 10000 50 1000 w1 (hL.later (hw1.base (by simp))) (by decide) (by decide)).mono fun e w2 ⟨x, h1, h2, h3⟩ => ⟨x, h1, h3.base (by simp), h2, hw1.join h3⟩) ?_
  rintro ⟨pX, mF, pF, pO, mO, esF, ckF, esO, ckO⟩ ⟨hF, hO⟩
  dsimp only at hF hO
  refine x_val rfl rfl rfl (v_move rfl) ?_
  refine x_val rfl rfl rfl (v_extract rfl rfl) ?_
  refine x_val rfl rfl rfl (v_extract rfl rfl) ?_
  refine x_val rfl rfl rfl (v_extract rfl rfl) ?_
  refine x_val rfl rfl rfl (v_assign rfl) ?_
  refine x_val rfl rfl rfl (v_assign rfl) ?_
  refine x_val rfl rfl rfl (v_assign rfl) ?_
  refine x_end ?_
  refine t_norm ?_
  refine w_seq ?_
  refine w_seq ?_
  refine rg_text ?_
  refine x_val rfl rfl rfl (v_move rfl) ?_
  refine x_bool rfl rfl rfl (v_pnil (o := some ⟨pO, 0, none⟩) Tryz.underlying25 rfl rfl) ?_
  intro b14 hb14
  obtain rfl : b14 = false := hb14
  refine x_val rfl rfl rfl (v_move rfl) ?_
  refine x_valg rfl rfl rfl rfl rfl (v_move rfl) ?_
  refine x_boolg rfl rfl rfl rfl rfl (v_pnil (o := some ⟨pF, 0, none⟩) Tryz.underlying26 rfl rfl) ?_
  intro b17 hb17
  obtain rfl : b17 = false := hb17
  refine x_bool rfl rfl rfl (v_or rfl rfl) ?_
  intro b18 hb18
  obtain rfl : b18 = false := hb18
  refine x_end ?_
  refine t_norm ?_
  refine w_cond rfl (fun hc18 => ?_) (fun hc18 => ?_)
  · cases hc18
  · skip
    refine w_skip ?_
    refine t_norm ?_
    refine w_seq ?_
    refine rg_text ?_
    refine x_val rfl rfl rfl (v_move rfl) ?_
    refine x_bool rfl rfl rfl (v_eql rfl rfl) ?_
    intro b20 hb20
    obtain rfl : b20 = true := hb20
    refine x_val rfl rfl rfl (v_move rfl) ?_
    refine x_valg rfl rfl rfl rfl rfl (v_move rfl) ?_
    refine x_callbg rfl rfl rfl rfl rfl Tryz.func12 (by kernel_rfl) rfl (fun w1 hw1 => c_has (f := ⟨10000, 0, 3 * 1000⟩) w1 (at_ownL (vs := fnC mF 10000) (.tail _ (.tail _ (.tail _ (.tail _ (.head _))))) rfl w1 hw1) (hw1.own_at (mF, _) (.tail _ (.tail _ (.tail _ (.head _))))) hF (fun i v hv => at_ownL (vs := fxC ⟨10000, 0, 3 * 1000⟩) (.tail _ (.tail _ (.head _))) hv w1 hw1) (3000) (0)) ?_
    intro b23 hb23
    obtain rfl : b23 = true := hb23.trans (by decide)
    refine x_bool rfl rfl rfl (v_and rfl rfl) ?_
    intro b24 hb24
    obtain rfl : b24 = true := hb24
    refine x_val rfl rfl rfl (v_assign rfl) ?_
    refine x_end ?_
    refine t_norm ?_
    refine w_seq ?_
    refine rg_text ?_
    refine x_val rfl rfl rfl (v_move rfl) ?_
    refine x_callv rfl rfl rfl Tryz.func10 (by kernel_rfl) rfl (fun w1 hw1 => c_ans 2 1050 w1 (by decide) (by decide)) ?_
    obtain ⟨_, af1, af2, af3, af4⟩ := ans_facts (n := 2) (r := 1050) (by decide) (by decide)
    refine x_turnf (τ := Array MapEntry × Nat) (v := Value.int .i64 0) (fun q => MapF Tryz.prog 3 q.1 (fO (some ((answO (placedO (yO 3 1000)) (yO 2 1050)), 1000)))) (fun q => (pO, Obj.cells (orC pF (min (max 50 0) 1000000) mO).toArray 58) :: (mO, Obj.map q.1 q.2) :: (pX, Obj.cells (fxC ⟨10000, 0, 2100⟩).toArray 88) :: (mF, Obj.map esF ckF) :: (pF, Obj.cells (fnC mF 10000).toArray 83) :: []) rfl rfl Tryz.func9 (by kernel_rfl) rfl (fun w1 hw1 => by
      have h := c_Answer (L := []) hw1 hF hO (by unfold fundOK; decide) (by decide) (by unfold ordR; decide) (by decide) (by simp) hL (ansT 2 1050) af1 af2 af3 (yO 2 1050) af4 rfl ⟨by show (0 : Int) ≤ 1050; omega, by show 1050 ≤ (999999999 : Int); omega⟩ ⟨by show (0 : Int) ≤ 2; omega, by show 2 ≤ (9999 : Int); omega⟩
      rw [show answerP ⟨⟨10000, 0, 3 * 1000⟩, (min (max 50 0) 1000000), some ((placedO (yO 3 1000)), 1000)⟩ (yO 2 1050) 0 = (0, ⟨⟨10000, 0, 2100⟩, (min (max 50 0) 1000000), some ((answO (placedO (yO 3 1000)) (yO 2 1050)), 1000)⟩) from by decide] at h
      exact h) ?_
    rintro ⟨es27, ck27⟩ hO27
    dsimp only at hO27
    refine x_bool rfl rfl rfl (v_eql rfl rfl) ?_
    intro b28 hb28
    obtain rfl : b28 = true := hb28
    refine x_val rfl rfl rfl (v_move rfl) ?_
    refine x_valg rfl rfl rfl rfl rfl (v_move rfl) ?_
    refine x_callbg rfl rfl rfl rfl rfl Tryz.func12 (by kernel_rfl) rfl (fun w1 hw1 => c_has (f := ⟨10000, 0, 2100⟩) w1 (at_ownL (vs := fnC mF 10000) (.tail _ (.tail _ (.tail _ (.tail _ (.head _))))) rfl w1 hw1) (hw1.own_at (mF, _) (.tail _ (.tail _ (.tail _ (.head _))))) hF (fun i v hv => at_ownL (vs := fxC ⟨10000, 0, 2100⟩) (.tail _ (.tail _ (.head _))) hv w1 hw1) (2100) (0)) ?_
    intro b31 hb31
    obtain rfl : b31 = true := hb31.trans (by decide)
    refine x_bool rfl rfl rfl (v_and rfl rfl) ?_
    intro b32 hb32
    obtain rfl : b32 = true := hb32
    refine x_val rfl rfl rfl (v_move rfl) ?_
    refine x_valg rfl rfl rfl rfl rfl (v_move rfl) ?_
    refine x_callvg rfl rfl rfl rfl rfl Tryz.func10 (by kernel_rfl) rfl (fun w1 hw1 => c_ans 2 1051 w1 (by decide) (by decide)) ?_
    obtain ⟨_, af1, af2, af3, af4⟩ := ans_facts (n := 2) (r := 1051) (by decide) (by decide)
    refine x_turng (τ := Array MapEntry × Nat) (v := Value.int .i64 61) (fun q => MapF Tryz.prog 3 q.1 (fO (some ((answO (placedO (yO 3 1000)) (yO 2 1050)), 1000)))) (fun q => (pO, Obj.cells (orC pF (min (max 50 0) 1000000) mO).toArray 58) :: (mO, Obj.map q.1 q.2) :: (pX, Obj.cells (fxC ⟨10000, 0, 2100⟩).toArray 88) :: (mF, Obj.map esF ckF) :: (pF, Obj.cells (fnC mF 10000).toArray 83) :: []) rfl rfl rfl rfl Tryz.func9 (by kernel_rfl) rfl (fun w1 hw1 => by
      have h := c_Answer (L := []) hw1 hF hO27 (by unfold fundOK; decide) (by decide) (by unfold ordR; decide) (by decide) (by simp) hL (ansT 2 1051) af1 af2 af3 (yO 2 1051) af4 rfl ⟨by show (0 : Int) ≤ 1051; omega, by show 1051 ≤ (999999999 : Int); omega⟩ ⟨by show (0 : Int) ≤ 2; omega, by show 2 ≤ (9999 : Int); omega⟩
      rw [show answerP ⟨⟨10000, 0, 2100⟩, (min (max 50 0) 1000000), some ((answO (placedO (yO 3 1000)) (yO 2 1050)), 1000)⟩ (yO 2 1051) 0 = (61, ⟨⟨10000, 0, 2100⟩, (min (max 50 0) 1000000), some ((answO (placedO (yO 3 1000)) (yO 2 1050)), 1000)⟩) from by decide] at h
      exact h) ?_
    rintro ⟨es36, ck36⟩ hO36
    dsimp only at hO36
    refine x_boolg rfl rfl rfl rfl rfl (v_eql rfl rfl) ?_
    intro b37 hb37
    obtain rfl : b37 = true := hb37
    refine x_bool rfl rfl rfl (v_and rfl rfl) ?_
    intro b38 hb38
    obtain rfl : b38 = true := hb38
    refine x_val rfl rfl rfl (v_assign rfl) ?_
    refine x_end ?_
    refine t_norm ?_
    refine w_seq ?_
    refine rg_text ?_
    refine x_val rfl rfl rfl (v_move rfl) ?_
    refine x_turnf (τ := Array MapEntry × Nat) (v := Value.int .i64 0) (fun q => MapF Tryz.prog 3 q.1 (fO (some ({ (answO (placedO (yO 3 1000)) (yO 2 1050)) with st := 1 }, 1000)))) (fun q => (pO, Obj.cells (orC pF (min (max 50 0) 1000000) mO).toArray 58) :: (mO, Obj.map q.1 q.2) :: (pX, Obj.cells (fxC ⟨10000, 0, 2100⟩).toArray 88) :: (mF, Obj.map esF ckF) :: (pF, Obj.cells (fnC mF 10000).toArray 83) :: []) rfl rfl Tryz.func13 (by kernel_rfl) rfl (fun w1 hw1 => by
      have h := c_Receive (L := []) hw1 hF hO36 (by unfold fundOK; decide) (by decide) (by unfold ordR; decide) (by decide) (1) (by decide)
      rw [show receiveP ⟨⟨10000, 0, 2100⟩, (min (max 50 0) 1000000), some ((answO (placedO (yO 3 1000)) (yO 2 1050)), 1000)⟩ 7 1 = (0, ⟨⟨10000, 0, 2100⟩, (min (max 50 0) 1000000), some ({ (answO (placedO (yO 3 1000)) (yO 2 1050)) with st := 1 }, 1000)⟩) from by decide] at h
      exact h) ?_
    rintro ⟨es40, ck40⟩ hO40
    dsimp only at hO40
    refine x_bool rfl rfl rfl (v_eql rfl rfl) ?_
    intro b41 hb41
    obtain rfl : b41 = true := hb41
    refine x_val rfl rfl rfl (v_move rfl) ?_
    refine x_valg rfl rfl rfl rfl rfl (v_move rfl) ?_
    refine x_callvg rfl rfl rfl rfl rfl Tryz.func15 (by kernel_rfl) rfl (fun w1 hw1 => c_bil 2 1050 w1 (by decide) (by decide)) ?_
    obtain ⟨_, bf1, bf2, bf3, bf4⟩ := bil_facts (n := 2) (r := 1050) (by decide) (by decide)
    refine x_turng (τ := Nat × Array MapEntry × Nat) (v := Value.int .i64 50) (fun q => MapF Tryz.prog 3 q.2.1 (fO (some ({ (answO (placedO (yO 3 1000)) (yO 2 1050)) with st := 1 }, 1000)))) (fun q => (pO, Obj.cells (orC pF (min (max 50 0) 1000000) q.1).toArray 58) :: (q.1, Obj.map q.2.1 q.2.2) :: (pX, Obj.cells (fxC ⟨10000, 0, 2100⟩).toArray 88) :: (mF, Obj.map esF ckF) :: (pF, Obj.cells (fnC mF 10000).toArray 83) :: []) rfl rfl rfl rfl Tryz.func14 (by kernel_rfl) rfl (fun w1 hw1 => by
      have h := c_Pay (L := []) hw1 hF hO40 (by unfold fundOK; decide) (by decide) (by unfold ordR; decide) (by decide) (by simp) hL (bilT 2 1050) bf1 bf2 bf3 (yB 2 1050) bf4 rfl ⟨by show (0 : Int) ≤ 1050; omega, by show 1050 ≤ (999999999 : Int); omega⟩ ⟨by show (1 : Int) ≤ 2; omega, by show 2 ≤ (9999 : Int); omega⟩
      rw [show invoiceP ⟨⟨10000, 0, 2100⟩, (min (max 50 0) 1000000), some ({ (answO (placedO (yO 3 1000)) (yO 2 1050)) with st := 1 }, 1000)⟩ (yB 2 1050) = (50, ⟨⟨10000, 0, 2100⟩, (min (max 50 0) 1000000), some ({ (answO (placedO (yO 3 1000)) (yO 2 1050)) with st := 1 }, 1000)⟩) from by decide] at h
      exact h) ?_
    rintro ⟨mO45, es45, ck45⟩ hO45
    dsimp only at hO45
    refine x_boolg rfl rfl rfl rfl rfl (v_eql rfl rfl) ?_
    intro b46 hb46
    obtain rfl : b46 = true := hb46
    refine x_bool rfl rfl rfl (v_and rfl rfl) ?_
    intro b47 hb47
    obtain rfl : b47 = true := hb47
    refine x_val rfl rfl rfl (v_assign rfl) ?_
    refine x_end ?_
    refine t_norm ?_
    refine w_seq ?_
    refine rg_text ?_
    refine x_val rfl rfl rfl (v_move rfl) ?_
    refine x_callv rfl rfl rfl Tryz.func15 (by kernel_rfl) rfl (fun w1 hw1 => c_bil 1 1100 w1 (by decide) (by decide)) ?_
    obtain ⟨_, bf1, bf2, bf3, bf4⟩ := bil_facts (n := 1) (r := 1100) (by decide) (by decide)
    refine x_turnf (τ := Nat × Array MapEntry × Nat) (v := Value.int .i64 0) (fun q => MapF Tryz.prog 3 q.2.1 (fO (some ({ (answO (placedO (yO 3 1000)) (yO 2 1050)) with paid := 1, st := 1 }, 1000)))) (fun q => (pO, Obj.cells (orC pF (min (max 50 0) 1000000) q.1).toArray 58) :: (q.1, Obj.map q.2.1 q.2.2) :: (pX, Obj.cells (fxC ⟨10000, 1100, 1050⟩).toArray 88) :: (mF, Obj.map esF ckF) :: (pF, Obj.cells (fnC mF 10000).toArray 83) :: []) rfl rfl Tryz.func14 (by kernel_rfl) rfl (fun w1 hw1 => by
      have h := c_Pay (L := []) hw1 hF hO45 (by unfold fundOK; decide) (by decide) (by unfold ordR; decide) (by decide) (by simp) hL (bilT 1 1100) bf1 bf2 bf3 (yB 1 1100) bf4 rfl ⟨by show (0 : Int) ≤ 1100; omega, by show 1100 ≤ (999999999 : Int); omega⟩ ⟨by show (1 : Int) ≤ 1; omega, by show 1 ≤ (9999 : Int); omega⟩
      rw [show invoiceP ⟨⟨10000, 0, 2100⟩, (min (max 50 0) 1000000), some ({ (answO (placedO (yO 3 1000)) (yO 2 1050)) with st := 1 }, 1000)⟩ (yB 1 1100) = (0, ⟨⟨10000, 1100, 1050⟩, (min (max 50 0) 1000000), some ({ (answO (placedO (yO 3 1000)) (yO 2 1050)) with paid := 1, st := 1 }, 1000)⟩) from by decide] at h
      exact h) ?_
    rintro ⟨mO50, es50, ck50⟩ hO50
    dsimp only at hO50
    refine x_bool rfl rfl rfl (v_eql rfl rfl) ?_
    intro b51 hb51
    obtain rfl : b51 = true := hb51
    refine x_val rfl rfl rfl (v_move rfl) ?_
    refine x_valg rfl rfl rfl rfl rfl (v_move rfl) ?_
    refine x_callbg rfl rfl rfl rfl rfl Tryz.func12 (by kernel_rfl) rfl (fun w1 hw1 => c_has (f := ⟨10000, 1100, 1050⟩) w1 (at_ownL (vs := fnC mF 10000) (.tail _ (.tail _ (.tail _ (.tail _ (.head _))))) rfl w1 hw1) (hw1.own_at (mF, _) (.tail _ (.tail _ (.tail _ (.head _))))) hF (fun i v hv => at_ownL (vs := fxC ⟨10000, 1100, 1050⟩) (.tail _ (.tail _ (.head _))) hv w1 hw1) (1050) (1100)) ?_
    intro b54 hb54
    obtain rfl : b54 = true := hb54.trans (by decide)
    refine x_bool rfl rfl rfl (v_and rfl rfl) ?_
    intro b55 hb55
    obtain rfl : b55 = true := hb55
    refine x_val rfl rfl rfl (v_assign rfl) ?_
    refine x_end ?_
    refine t_norm ?_
    refine w_seq ?_
    refine rg_text ?_
    refine x_val rfl rfl rfl (v_move rfl) ?_
    refine x_val rfl rfl rfl (v_move rfl) ?_
    refine x_valg rfl rfl rfl rfl rfl (v_move rfl) ?_
    refine x_bool rfl rfl rfl (v_and rfl rfl) ?_
    intro b59 hb59
    obtain rfl : b59 = true := hb59
    refine x_val rfl rfl rfl (v_move rfl) ?_
    refine x_valg rfl rfl rfl rfl rfl (v_move rfl) ?_
    refine x_bool rfl rfl rfl (v_and rfl rfl) ?_
    intro b62 hb62
    obtain rfl : b62 = true := hb62
    refine x_val rfl rfl rfl (v_move rfl) ?_
    refine x_valg rfl rfl rfl rfl rfl (v_move rfl) ?_
    refine x_bool rfl rfl rfl (v_and rfl rfl) ?_
    intro b65 hb65
    obtain rfl : b65 = true := hb65
    refine x_val rfl rfl rfl (v_move rfl) ?_
    refine x_valg rfl rfl rfl rfl rfl (v_move rfl) ?_
    refine x_turng (τ := Array MapEntry × Nat) (v := Value.int .i64 0) (fun q => MapF Tryz.prog 3 q.1 (fO (some ({ (answO (placedO (yO 3 1000)) (yO 2 1050)) with paid := 1, prom := 1, st := -1 }, 1000)))) (fun q => (pO, Obj.cells (orC pF (min (max 50 0) 1000000) mO50).toArray 58) :: (mO50, Obj.map q.1 q.2) :: (pX, Obj.cells (fxC ⟨10000, 1100, 0⟩).toArray 88) :: (mF, Obj.map esF ckF) :: (pF, Obj.cells (fnC mF 10000).toArray 83) :: []) rfl rfl rfl rfl Tryz.func16 (by kernel_rfl) rfl (fun w1 hw1 => by
      have h := c_Cancel (L := []) hw1 hF hO50 (by unfold fundOK; decide) (by decide) (by unfold ordR; decide) (by decide)
      rw [show cancelP ⟨⟨10000, 1100, 1050⟩, (min (max 50 0) 1000000), some ({ (answO (placedO (yO 3 1000)) (yO 2 1050)) with paid := 1, st := 1 }, 1000)⟩ 7 = (0, ⟨⟨10000, 1100, 0⟩, (min (max 50 0) 1000000), some ({ (answO (placedO (yO 3 1000)) (yO 2 1050)) with paid := 1, prom := 1, st := -1 }, 1000)⟩) from by decide] at h
      exact h) ?_
    rintro ⟨es68, ck68⟩ hO68
    dsimp only at hO68
    refine x_boolg rfl rfl rfl rfl rfl (v_eql rfl rfl) ?_
    intro b69 hb69
    obtain rfl : b69 = true := hb69
    refine x_bool rfl rfl rfl (v_and rfl rfl) ?_
    intro b70 hb70
    obtain rfl : b70 = true := hb70
    refine x_val rfl rfl rfl (v_move rfl) ?_
    refine x_valg rfl rfl rfl rfl rfl (v_move rfl) ?_
    refine x_callbg rfl rfl rfl rfl rfl Tryz.func12 (by kernel_rfl) rfl (fun w1 hw1 => c_has (f := ⟨10000, 1100, 0⟩) w1 (at_ownL (vs := fnC mF 10000) (.tail _ (.tail _ (.tail _ (.tail _ (.head _))))) rfl w1 hw1) (hw1.own_at (mF, _) (.tail _ (.tail _ (.tail _ (.head _))))) hF (fun i v hv => at_ownL (vs := fxC ⟨10000, 1100, 0⟩) (.tail _ (.tail _ (.head _))) hv w1 hw1) (0) (1100)) ?_
    intro b73 hb73
    obtain rfl : b73 = true := hb73.trans (by decide)
    refine x_bool rfl rfl rfl (v_and rfl rfl) ?_
    intro b74 hb74
    obtain rfl : b74 = true := hb74
    refine x_val rfl rfl rfl (v_assign rfl) ?_
    refine x_end ?_
    refine t_norm ?_
    refine w_ret ?_
    exact ret1 rfl rfl (fun w' hm => ⟨rfl, hm.base (by simp)⟩)

end Go.Proofs.YtdampedpgbnihaaGreatDoor

namespace Go.Proofs.YtdampedpgbnihaaGreatDoor
open Go.RowKit Go.PK
set_option linter.unusedVariables false
set_option linter.unusedSimpArgs false
def wantN (P R T N : Int) : Int := if N > 3 then 1 else if 1000 * max (R - P) (P - R) > max T 0 * P then 61 else if N * R > 70000 then 60 else 0
theorem mod_b (n : Int) {m : Int} (h : 0 < m) : 0 ≤ n % m ∧ n % m < m := ⟨Int.emod_nonneg n (by omega), Int.emod_lt_of_pos n h⟩
theorem ordR_y {P : Int} (hP : 0 ≤ P ∧ P < 20000) : ordR (placedO (yO 3 P)) := by
  unfold ordR placedO yO; dsimp only; omega
end Go.Proofs.YtdampedpgbnihaaGreatDoor
