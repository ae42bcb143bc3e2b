/- Of the proofs of YtbamklefagghcaaGreatDoor: Wc Wd We Wf Wg Wh Wi Wj Wk Wl Wm Wn Wo Wp Wq Wr, put together. -/
import Derived.Test.YtbamklefagghcaaGreatDoorO3
import Derived.Test.YtbamklefagghcaaGreatDoorO2
import Derived.Test.YtbamklefagghcaaGreatDoorShelf
import Derived.Test.YtbamklefagghcaaGreatDoorO1
import Derived.Lib.SmallJoins
namespace Go.Proofs.YtbamklefagghcaaGreatDoor
open Go.RowKit Go.PK
set_option linter.unusedVariables false
set_option linter.unusedSimpArgs false
theorem ap5 : (Tryz.prog.info? 5).map (fun j => (j.zero, j.size, j.bytes)) = some (some (.int .u8 0), 1, 1) := by kernel_rfl
theorem lies66 : liesAt Tryz.prog Tryz.prog.depth 81 ((#[Value.nilIface, Value.nilIface] : Array Value).size / Tryz.prog.cellsOf 81) 0 81 1 = true := by kernel_rfl
set_option maxRecDepth 100000 in
theorem c_cc0 {l2 : List (Nat × Obj)} {ro : List Snap} {p : Nat} {r : RowS} {bs : List UInt8} (w : World) (hm : Mem w ((bld2 81 5 p (.pointer none) r (bs.length)) ++ l2) ro) :
    Calls Tryz.prog 75 #[.pointer (some ⟨p, 0, none⟩)] w fun e w' => e = .returned (.tuple #[]) ∧ Mem w' ((bld2 81 5 p (.pointer (some ⟨p, 0, none⟩)) r (bs.length)) ++ l2) ro := by
  refine enter_in hm (vs := [.pointer (some ⟨p, 0, none⟩)]) Tryz.func75 rfl Tryz.ntmps75 rfl ?_
  refine w_seq ?_
  refine rg_text ?_
  refine x_val rfl rfl rfl (v_move rfl) ?_
  refine x_val rfl rfl rfl (v_nilCheck rfl) ?_
  refine x_val rfl rfl rfl (v_fieldAddr (off' := 0) Tryz.underlying81 rfl sz79 (by decide) rfl rfl) ?_
  refine x_val rfl rfl rfl (v_load Tryz.underlying79 rfl rfl (at_ownL (vs := [(.pointer none), rowV r bs.length]) (.head _) rfl)) ?_
  refine x_bool rfl rfl rfl (v_pnil Tryz.underlying79 rfl rfl) ?_
  intro b6 hb6
  refine x_end ?_
  refine t_norm ?_
  refine w_cond rfl (fun hc6 => ?_) (fun hc6 => ?_)
  · skip
    refine rg_text ?_
    refine x_val rfl rfl rfl (v_move rfl) ?_
    refine x_val rfl rfl rfl (v_move rfl) ?_
    refine x_val rfl rfl rfl (v_toUns (e := 81) (cs := #[(.pointer none), rowV r bs.length]) (fz := (0, 0)) (m := 1) Tryz.underlying79 Tryz.underlying131 sz81 rfl (.head _) (show 0 < 2 by decide)) ?_
    refine x_val rfl rfl rfl (v_noEsc Tryz.func89 (by kernel_rfl) (by kernel_rfl) (by kernel_rfl) (by kernel_rfl) rfl) ?_
    refine x_val rfl rfl rfl (v_fromUns (e := 81) (cs := #[(.pointer none), rowV r bs.length]) (fz := (0, 0)) Tryz.underlying131 Tryz.underlying79 ⟨_, (Option.map_eq_some_iff.1 sz81).choose_spec.1⟩ rfl (.head _) lies66) ?_
    refine x_val rfl rfl rfl (v_nilCheck rfl) ?_
    refine x_val rfl rfl rfl (v_fieldAddr (off' := 0) Tryz.underlying81 rfl sz79 (by decide) rfl rfl) ?_
    refine x_store [] rfl rfl rfl rfl sz79 rfl (by show 1 ≤ 2; decide) ?_
    refine x_end ?_
    exact ret0 rfl (fun w' hm' => ⟨rfl, hm'⟩)
  · rw [hb6] at hc6; cases hc6
set_option maxRecDepth 100000 in
theorem c_cc1 {l2 : List (Nat × Obj)} {ro : List Snap} {p : Nat} {r : RowS} {bs : List UInt8} (w : World) (hm : Mem w ((bld2 81 5 p (.pointer (some ⟨p, 0, none⟩)) r (bs.length)) ++ l2) ro) :
    Calls Tryz.prog 75 #[.pointer (some ⟨p, 0, none⟩)] w fun e w' => e = .returned (.tuple #[]) ∧ Mem w' ((bld2 81 5 p (.pointer (some ⟨p, 0, none⟩)) r (bs.length)) ++ l2) ro := by
  refine enter_in hm (vs := [.pointer (some ⟨p, 0, none⟩)]) Tryz.func75 rfl Tryz.ntmps75 rfl ?_
  refine w_seq ?_
  refine rg_text ?_
  refine x_val rfl rfl rfl (v_move rfl) ?_
  refine x_val rfl rfl rfl (v_nilCheck rfl) ?_
  refine x_val rfl rfl rfl (v_fieldAddr (off' := 0) Tryz.underlying81 rfl sz79 (by decide) rfl rfl) ?_
  refine x_val rfl rfl rfl (v_load Tryz.underlying79 rfl rfl (at_ownL (vs := [(.pointer (some ⟨p, 0, none⟩)), rowV r bs.length]) (.head _) rfl)) ?_
  refine x_bool rfl rfl rfl (v_pnil Tryz.underlying79 rfl rfl) ?_
  intro b6 hb6
  refine x_end ?_
  refine t_norm ?_
  refine w_cond rfl (fun hc6 => ?_) (fun hc6 => ?_)
  · rw [hb6] at hc6; cases hc6
  · skip
    refine w_seq ?_
    refine rg_text ?_
    refine x_val rfl rfl rfl (v_move rfl) ?_
    refine x_val rfl rfl rfl (v_nilCheck rfl) ?_
    refine x_val rfl rfl rfl (v_fieldAddr (off' := 0) Tryz.underlying81 rfl sz79 (by decide) rfl rfl) ?_
    refine x_val rfl rfl rfl (v_load Tryz.underlying79 rfl rfl (at_ownL (vs := [(.pointer (some ⟨p, 0, none⟩)), rowV r bs.length]) (.head _) rfl)) ?_
    refine x_val rfl rfl rfl (v_move rfl) ?_
    refine x_bool rfl rfl rfl (v_pne Tryz.underlying79 (Option.map_eq_some_iff.1 sz81).choose_spec.1 rfl rfl) ?_
    intro b19 hb19
    refine x_end ?_
    refine t_norm ?_
    refine w_cond rfl (fun hc19 => ?_) (fun hc19 => ?_)
    · rw [hb19] at hc19; cases hc19
    · skip
      refine w_skip ?_
      exact ret0 rfl (fun w' hm' => ⟨rfl, hm'⟩)
theorem c_cc {l2 : List (Nat × Obj)} {ro : List Snap} {p : Nat} {pp : Value} {r : RowS} {bs : List UInt8} (w : World) (hm : Mem w ((bld2 81 5 p pp r (bs.length)) ++ l2) ro) (hp : ppOK p pp) :
    Calls Tryz.prog 75 #[.pointer (some ⟨p, 0, none⟩)] w fun e w' => e = .returned (.tuple #[]) ∧ Mem w' ((bld2 81 5 p (.pointer (some ⟨p, 0, none⟩)) r (bs.length)) ++ l2) ro := by
  rcases hp with rfl | rfl
  · exact c_cc0 w hm
  · exact c_cc1 w hm
set_option maxRecDepth 100000 in
theorem c_WB {l2 : List (Nat × Obj)} {ro : List Snap} {p : Nat} {pp : Value} {r : RowS} {bs : List UInt8} (w : World) (hm : Mem w ((bld2 81 5 p pp r (bs.length)) ++ l2) ro) (hp : ppOK p pp) (c : UInt8) (hr : rowOK 1 r bs.length (byC bs)) (hl : bs.length ≤ 4000000000000) :
    Calls Tryz.prog 49 #[.pointer (some ⟨p, 0, none⟩), .int .u8 (c.toNat : Nat)] w fun e w' => e = .returned .nilIface ∧ ∃ r', rowOK 1 r' (bs ++ [c]).length (byC (bs ++ [c])) ∧ Mem w' ((bld2 81 5 p (.pointer (some ⟨p, 0, none⟩)) r' ((bs ++ [c]).length)) ++ l2) ro := by
  refine enter_in hm (vs := [.pointer (some ⟨p, 0, none⟩), .int .u8 (c.toNat : Nat)]) Tryz.func49 rfl Tryz.ntmps49 rfl ?_
  refine w_seq ?_
  refine rg_text ?_
  refine x_val rfl rfl rfl (v_assign rfl) ?_
  refine x_end ?_
  refine t_norm ?_
  refine w_seq ?_
  refine rg_text ?_
  refine x_val rfl rfl rfl (v_move rfl) ?_
  refine x_turnf (τ := Unit) (v := .tuple #[]) (fun _ => True) (fun _ => (bld2 81 5 p (.pointer (some ⟨p, 0, none⟩)) r (bs.length)) ++ l2) rfl rfl Tryz.func75 (by kernel_rfl) rfl (fun w1 hw1 => by have hc := c_cc w1 hw1 hp; exact hc.mono fun e w2 h => ⟨h.1, (), trivial, h.2⟩) ?_
  intro _ _
  refine x_end ?_
  refine t_norm ?_
  refine w_seq ?_
  refine rg_text ?_
  refine x_val rfl rfl rfl (v_move rfl) ?_
  refine x_val rfl rfl rfl (v_move rfl) ?_
  refine x_val rfl rfl rfl (v_nilCheck rfl) ?_
  refine x_val rfl rfl rfl (v_fieldAddr (off' := 1) Tryz.underlying81 rfl sz56 (by decide) rfl rfl) ?_
  refine x_val rfl rfl rfl (v_load Tryz.underlying56 rfl rfl (at_ownL (vs := [(.pointer (some ⟨p, 0, none⟩)), rowV r bs.length]) (.head _) rfl)) ?_
  refine x_val rfl rfl rfl (v_move rfl) ?_
  refine x_buildSliceL rfl rfl rfl Tryz.underlying56 sz5 zr5 rfl rfl rfl ?_
  intro p13
  refine x_append (e := 5) [(p13, _), (p, _)] (l2 := l2) r (len := bs.length) (xs := byC bs) rfl rfl rfl rfl rfl hr Tryz.underlying56 ap5 rfl rfl (m := 1) (news := byC [c]) (fun i hi => at_ownL (vs := byC [c]) (.head _) (by rw [Nat.zero_add]; exact List.getElem?_eq_getElem hi)) rfl (by simp only [maxLen]; omega) (by omega) ?_
  intro r' hr'
  refine x_val rfl rfl rfl (v_nilCheck rfl) ?_
  refine x_val rfl rfl rfl (v_fieldAddr (off' := 1) Tryz.underlying81 rfl sz56 (by decide) rfl rfl) ?_
  refine x_store [(p13, _)] rfl rfl rfl rfl sz56 rfl (by show 2 ≤ 2; decide) ?_
  refine x_end ?_
  refine t_norm ?_
  refine w_seq ?_
  refine rg_text ?_
  refine x_val rfl rfl rfl (v_assign rfl) ?_
  refine x_end ?_
  refine t_norm ?_
  refine w_ret ?_
  refine ret1 rfl rfl (fun w' hm' => ⟨rfl, r', ?_, ?_⟩)
  · rw [byC_app, List.length_append]; exact hr'
  · rw [List.length_append]; exact hm'.less (List.sublist_cons_self _ _) (fun _ h => h)
theorem c_BS {l2 : List (Nat × Obj)} {ro : List Snap} {p : Nat} {pp : Value} {r : RowS} {bs : List UInt8} (w : World) (hm : Mem w ((bld2 81 5 p pp r (bs.length)) ++ l2) ro) (hp : ppOK p pp) (hr : rowOK 1 r bs.length (byC bs)) {B : Nat} (hB : ∀ s ∈ ro, s.1.heap.size ≤ B) (h2 : ∀ q ∈ l2, q.1 < B) (hb : ∀ q ∈ (bld2 81 5 p pp r (bs.length)), B ≤ q.1) (hBw : B ≤ w.heap.size) :
    Calls Tryz.prog 52 #[.pointer (some ⟨p, 0, none⟩)] w fun e w' => e = .returned (.string ⟨bs.toArray⟩) ∧ Mem w' l2 ro :=
  (Tryz.Builder_String_any_k B p bs w (bld2_is hm hp hr rfl hb) hBw).mono fun e w' ⟨h1, _, h3, _⟩ => ⟨h1, hm.after hB h2 h3⟩

end Go.Proofs.YtbamklefagghcaaGreatDoor

namespace Go.Proofs.YtbamklefagghcaaGreatDoor
open Go.RowKit Go.PK
set_option linter.unusedVariables false
set_option linter.unusedSimpArgs false
def pieceV : PieceR → Value
  | some (t, c, _) => .tuple #[.string ⟨t.toArray⟩, .int .u8 (c.toNat : Nat), .bool true]
  | none => .tuple #[.string ⟨#[]⟩, .int .u8 0, .bool false]
set_option maxRecDepth 100000 in
theorem c_piece {l1 l2 : List (Nat × Obj)} {ro : List Snap} {p : Nat} (g : Sg) (s : ByteArray) (a : Nat) (w : World) (hm : Mem w (l1 ++ (p, Obj.cells (msgC g s (a)).toArray 95) :: l2) ro) (hs : s.size ≤ 200000000) (ha : a ≤ s.size) :
    Calls Tryz.prog 80 #[.pointer (some ⟨p, 0, none⟩)] w fun e w' => e = .returned (pieceV (pieceP s g a [])) ∧ ∃ a', (∀ t c z, pieceP s g a [] = some (t, c, z) → a' = z) ∧ Mem w' (l1 ++ (p, Obj.cells (msgC g s (a')).toArray 95) :: l2) ro := by
  refine enter_in hm.snap (vs := [.pointer (some ⟨p, 0, none⟩)]) Tryz.func80 rfl Tryz.ntmps80 rfl ?_
  refine w_seq ?_
  refine rg_text ?_
  refine x_val rfl rfl rfl (v_assign rfl) ?_
  refine x_val rfl rfl rfl (v_assign rfl) ?_
  refine x_val rfl rfl rfl (v_assign rfl) ?_
  refine x_end ?_
  refine t_norm ?_
  refine w_seq ?_
  refine rg_text ?_
  refine x_alloc rfl rfl rfl zr81 ?_
  intro p5
  refine x_end ?_
  refine t_norm ?_
  refine w_seq ?_
  refine w_block ?_
  refine w_loop (σ := Nat × List UInt8 × Value × RowS) (fun x => x.1 ≤ s.size ∧ pieceP s g x.1 x.2.1 = pieceP s g a [] ∧ ppOK p5 x.2.2.1 ∧ rowOK 1 x.2.2.2 x.2.1.length (byC x.2.1) ∧ x.2.1.length ≤ x.1) (fun x => [(0, .pointer (some ⟨p, 0, none⟩)), (5, .pointer (some ⟨p5, 0, none⟩))]) (fun x => ((bld2 81 5 p5 x.2.2.1 x.2.2.2 (x.2.1.length)) ++ l1) ++ (p, Obj.cells (msgC g s (x.1)).toArray 95) :: l2) (fun x => (w, notOwn (l1 ++ (p, Obj.cells (msgC g s (a)).toArray 95) :: l2)) :: ro) (fun x => s.size - x.1) ((a, [], .pointer none, none)) (⟨ha, rfl, .inl rfl, rowOK_nil, Nat.zero_le _⟩) (l_start (by repeat (first | exact Sub.nil | refine Sub.cons rfl ?_)) (fun _ h => h)) ?_
  rintro ⟨x, bs, pp, r⟩ ⟨hx, hP, hpp, hr, hbl⟩
  refine w_state ([(0, .pointer (some ⟨p, 0, none⟩)), (5, .pointer (some ⟨p5, 0, none⟩))]) (((bld2 81 5 p5 pp r (bs.length)) ++ l1) ++ (p, Obj.cells (msgC g s (x)).toArray 95) :: l2) ((w, notOwn (l1 ++ (p, Obj.cells (msgC g s (a)).toArray 95) :: l2)) :: ro) ?_
  dsimp only at hx hP hpp hr hbl
  have hpe := piece_eq s g x bs
  refine w_seq ?_
  refine w_seq ?_
  refine rg_draw 10 [(true, 0), (true, 1), (true, 2), (true, 3), (true, 4), (true, 5), (true, 6), (true, 7), (true, 8), (true, 9)] (by kernel_rfl) (by kernel_rfl) ?_
  refine x_val rfl rfl rfl (v_move rfl) ?_
  refine x_val rfl rfl rfl (v_nilCheck rfl) ?_
  refine x_val rfl rfl rfl (v_fieldAddr (off' := 5) Tryz.underlying95 rfl sz3 (by decide) rfl rfl) ?_
  refine x_val rfl rfl rfl (v_load Tryz.underlying3 rfl rfl (at_ownL (vs := msgC g s (x)) (List.mem_append_right _ (.head _)) rfl)) ?_
  refine x_val rfl rfl rfl (v_move rfl) ?_
  refine x_val rfl rfl rfl (v_nilCheck rfl) ?_
  refine x_val rfl rfl rfl (v_fieldAddr (off' := 4) Tryz.underlying95 rfl sz9 (by decide) rfl rfl) ?_
  refine x_val rfl rfl rfl (v_load Tryz.underlying9 rfl rfl (at_ownL (vs := msgC g s (x)) (List.mem_append_right _ (.head _)) rfl)) ?_
  refine x_val rfl rfl rfl (v_len_str Tryz.underlying9 rfl) ?_
  refine x_bool rfl rfl rfl (v_lss rfl rfl) ?_
  intro b16 hb16
  refine x_end ?_
  refine t_norm ?_
  refine w_cond rfl (fun hc16 => ?_) (fun hc16 => ?_)
  · simp only [hb16, decide_eq_true_eq, decide_eq_false_iff_not, Bool.and_eq_true, Bool.or_eq_true, Bool.and_eq_false_iff, Bool.or_eq_false_iff, Bool.not_eq_true', Bool.not_eq_false', ne_eq, Decidable.not_not] at hc16
    have hx2 : x < s.size := by omega
    refine w_skip ?_
    refine t_norm ?_
    refine w_block ?_
    refine w_seq ?_
    refine rg_draw 10 [(true, 0), (true, 1), (true, 2), (true, 3), (true, 4), (true, 5), (true, 6), (true, 7), (true, 8), (true, 9)] (by kernel_rfl) (by kernel_rfl) ?_
    refine x_val rfl rfl rfl (v_move rfl) ?_
    refine x_val rfl rfl rfl (v_nilCheck rfl) ?_
    refine x_val rfl rfl rfl (v_fieldAddr (off' := 4) Tryz.underlying95 rfl sz9 (by decide) rfl rfl) ?_
    refine x_val rfl rfl rfl (v_load Tryz.underlying9 rfl rfl (at_ownL (vs := msgC g s (x)) (List.mem_append_right _ (.head _)) rfl)) ?_
    refine x_val rfl rfl rfl (v_move rfl) ?_
    refine x_val rfl rfl rfl (v_nilCheck rfl) ?_
    refine x_val rfl rfl rfl (v_fieldAddr (off' := 5) Tryz.underlying95 rfl sz3 (by decide) rfl rfl) ?_
    refine x_val rfl rfl rfl (v_load Tryz.underlying3 rfl rfl (at_ownL (vs := msgC g s (x)) (List.mem_append_right _ (.head _)) rfl)) ?_
    refine x_val rfl rfl rfl (v_index Tryz.underlying9 rfl rfl (by omega)) ?_
    refine x_val rfl rfl rfl (v_assign rfl) ?_
    refine x_end ?_
    refine t_norm ?_
    refine w_seq ?_
    refine rg_text ?_
    refine x_val rfl rfl rfl (v_move rfl) ?_
    refine x_val rfl rfl rfl (v_nilCheck rfl) ?_
    refine x_val rfl rfl rfl (v_fieldAddr (off' := 5) Tryz.underlying95 rfl sz3 (by decide) rfl rfl) ?_
    refine x_val rfl rfl rfl (v_load Tryz.underlying3 rfl rfl (at_ownL (vs := msgC g s (x)) (List.mem_append_right _ (.head _)) rfl)) ?_
    refine x_val rfl rfl rfl (v_addi rfl rfl rfl (by omega)) ?_
    refine x_val rfl rfl rfl (v_nilCheck rfl) ?_
    refine x_val rfl rfl rfl (v_fieldAddr (off' := 5) Tryz.underlying95 rfl sz3 (by decide) rfl rfl) ?_
    refine x_store ((bld2 81 5 p5 pp r (bs.length)) ++ l1) rfl rfl rfl rfl sz3 rfl (by show 6 ≤ 6; decide) ?_
    refine x_end ?_
    refine t_norm ?_
    refine w_seq ?_
    refine w_seq ?_
    refine rg_text ?_
    refine x_val rfl rfl rfl (v_move rfl) ?_
    refine x_end ?_
    refine t_norm ?_
    refine w_block ?_
    refine w_seq ?_
    refine w_seq ?_
    refine rg_text ?_
    refine x_val rfl rfl rfl (v_move rfl) ?_
    refine x_val rfl rfl rfl (v_nilCheck rfl) ?_
    refine x_val rfl rfl rfl (v_fieldAddr (off' := 0) Tryz.underlying95 rfl sz77 (by decide) rfl rfl) ?_
    refine x_val rfl rfl rfl (v_fieldAddr (off' := 0) Tryz.underlying77 rfl sz5 (by decide) rfl rfl) ?_
    refine x_val rfl rfl rfl (v_load Tryz.underlying5 rfl rfl (at_ownL (vs := msgC g s (x + 1)) (List.mem_append_right _ (.head _)) rfl)) ?_
    refine x_bool rfl rfl rfl (v_eql rfl rfl) ?_
    intro b40 hb40
    refine x_val rfl rfl rfl (v_assign rfl) ?_
    refine x_end ?_
    refine t_norm ?_
    refine w_cond rfl (fun hc34 => ?_) (fun hc34 => ?_)
    · simp only [hb40, decide_eq_true_eq, decide_eq_false_iff_not, Bool.and_eq_true, Bool.or_eq_true, Bool.and_eq_false_iff, Bool.or_eq_false_iff, Bool.not_eq_true', Bool.not_eq_false', ne_eq, Decidable.not_not] at hc34
      have hsg : byteAt s x = g.c ∨ byteAt s x = g.e ∨ byteAt s x = g.n := .inl (u8_lit.1 hc34)
      refine w_skip ?_
      refine t_norm ?_
      refine w_cond rfl (fun hc34 => ?_) (fun hc34 => ?_)
      · skip
        refine w_seq ?_
        refine rg_text ?_
        refine x_turnf (τ := Unit) (v := .string ⟨bs.toArray⟩) (fun _ => True) (fun _ => l1 ++ (p, Obj.cells (msgC g s (x + 1)).toArray 95) :: l2) rfl rfl Tryz.func52 (by kernel_rfl) rfl (fun w1 hw1 => by
          rw [List.append_assoc] at hw1
          have hB : ∀ q ∈ (bld2 81 5 p5 pp r (bs.length)), w.heap.size ≤ q.1 := hw1.newB (own0 := l1 ++ (p, Obj.cells (msgC g s (a)).toArray 95) :: l2) (.head _) (fun k hk => by simpa using hk)
          have hc := c_BS w1 hw1 hpp hr (B := w.heap.size) (fun q hq => by
            rcases List.mem_cons.1 hq with rfl | hq
            · exact Nat.le_refl _
            · exact (hm.ro_st q hq).2.2.2) (fun q hq => by
              obtain ⟨q2, hq2, e⟩ : ∃ q2 ∈ l1 ++ (p, Obj.cells (msgC g s (a)).toArray 95) :: l2, q2.1 = q.1 := by
                simp only [List.mem_append, List.mem_cons] at hq ⊢
                rcases hq with hq | rfl | hq
                · exact ⟨q, .inl hq, rfl⟩
                · exact ⟨_, .inr (.inl rfl), rfl⟩
                · exact ⟨q, .inr (.inr hq), rfl⟩
              rw [← e]; exact hm.lt hq2) hB (hw1.ro_st _ (.head _)).2.2.2
          exact hc.mono fun e w2 h => ⟨h.1, (), trivial, h.2⟩) ?_
        intro _ _
        refine x_val rfl rfl rfl (v_move rfl) ?_
        refine x_val rfl rfl rfl (v_assign rfl) ?_
        refine x_val rfl rfl rfl (v_assign rfl) ?_
        refine x_val rfl rfl rfl (v_assign rfl) ?_
        refine x_end ?_
        refine t_norm ?_
        refine w_ret ?_
        refine b_ret ?_
        refine t_ret ?_
        refine b_ret ?_
        refine t_ret ?_
        refine b_ret ?_
        refine t_ret ?_
        refine ret3 rfl rfl rfl rfl (fun w' hm' => ?_)
        have eP : pieceP s g a [] = some (bs, byteAt s x, x + 1) := by rw [← hP, hpe, if_pos hx2, if_pos hsg]
        rw [eP]
        exact ⟨rfl, x + 1, fun t c z h => by injection h with h; injection h with _ h; injection h with _ h, hm'.less (List.Sublist.refl _) (fun q hq => .tail _ hq)⟩
      · simp only [hb40, decide_eq_true_eq, decide_eq_false_iff_not, Bool.and_eq_true, Bool.or_eq_true, Bool.and_eq_false_iff, Bool.or_eq_false_iff, Bool.not_eq_true', Bool.not_eq_false', ne_eq, Decidable.not_not] at hc34
        omega
    · simp only [hb40, decide_eq_true_eq, decide_eq_false_iff_not, Bool.and_eq_true, Bool.or_eq_true, Bool.and_eq_false_iff, Bool.or_eq_false_iff, Bool.not_eq_true', Bool.not_eq_false', ne_eq, Decidable.not_not] at hc34
      have h34a := hc34
      refine w_seq ?_
      refine rg_text ?_
      refine x_val rfl rfl rfl (v_move rfl) ?_
      refine x_val rfl rfl rfl (v_nilCheck rfl) ?_
      refine x_val rfl rfl rfl (v_fieldAddr (off' := 0) Tryz.underlying95 rfl sz77 (by decide) rfl rfl) ?_
      refine x_val rfl rfl rfl (v_fieldAddr (off' := 1) Tryz.underlying77 rfl sz5 (by decide) rfl rfl) ?_
      refine x_val rfl rfl rfl (v_load Tryz.underlying5 rfl rfl (at_ownL (vs := msgC g s (x + 1)) (List.mem_append_right _ (.head _)) rfl)) ?_
      refine x_bool rfl rfl rfl (v_eql rfl rfl) ?_
      intro b46 hb46
      refine x_val rfl rfl rfl (v_assign rfl) ?_
      refine x_end ?_
      refine t_norm ?_
      refine w_cond rfl (fun hc34 => ?_) (fun hc34 => ?_)
      · simp only [hb46, decide_eq_true_eq, decide_eq_false_iff_not, Bool.and_eq_true, Bool.or_eq_true, Bool.and_eq_false_iff, Bool.or_eq_false_iff, Bool.not_eq_true', Bool.not_eq_false', ne_eq, Decidable.not_not] at hc34
        have hsg : byteAt s x = g.c ∨ byteAt s x = g.e ∨ byteAt s x = g.n := .inr (.inl (u8_lit.1 hc34))
        refine w_skip ?_
        refine t_norm ?_
        refine w_cond rfl (fun hc34 => ?_) (fun hc34 => ?_)
        · skip
          refine w_seq ?_
          refine rg_text ?_
          refine x_turnf (τ := Unit) (v := .string ⟨bs.toArray⟩) (fun _ => True) (fun _ => l1 ++ (p, Obj.cells (msgC g s (x + 1)).toArray 95) :: l2) rfl rfl Tryz.func52 (by kernel_rfl) rfl (fun w1 hw1 => by
            rw [List.append_assoc] at hw1
            have hB : ∀ q ∈ (bld2 81 5 p5 pp r (bs.length)), w.heap.size ≤ q.1 := hw1.newB (own0 := l1 ++ (p, Obj.cells (msgC g s (a)).toArray 95) :: l2) (.head _) (fun k hk => by simpa using hk)
            have hc := c_BS w1 hw1 hpp hr (B := w.heap.size) (fun q hq => by
              rcases List.mem_cons.1 hq with rfl | hq
              · exact Nat.le_refl _
              · exact (hm.ro_st q hq).2.2.2) (fun q hq => by
                obtain ⟨q2, hq2, e⟩ : ∃ q2 ∈ l1 ++ (p, Obj.cells (msgC g s (a)).toArray 95) :: l2, q2.1 = q.1 := by
                  simp only [List.mem_append, List.mem_cons] at hq ⊢
                  rcases hq with hq | rfl | hq
                  · exact ⟨q, .inl hq, rfl⟩
                  · exact ⟨_, .inr (.inl rfl), rfl⟩
                  · exact ⟨q, .inr (.inr hq), rfl⟩
                rw [← e]; exact hm.lt hq2) hB (hw1.ro_st _ (.head _)).2.2.2
            exact hc.mono fun e w2 h => ⟨h.1, (), trivial, h.2⟩) ?_
          intro _ _
          refine x_val rfl rfl rfl (v_move rfl) ?_
          refine x_val rfl rfl rfl (v_assign rfl) ?_
          refine x_val rfl rfl rfl (v_assign rfl) ?_
          refine x_val rfl rfl rfl (v_assign rfl) ?_
          refine x_end ?_
          refine t_norm ?_
          refine w_ret ?_
          refine b_ret ?_
          refine t_ret ?_
          refine b_ret ?_
          refine t_ret ?_
          refine b_ret ?_
          refine t_ret ?_
          refine ret3 rfl rfl rfl rfl (fun w' hm' => ?_)
          have eP : pieceP s g a [] = some (bs, byteAt s x, x + 1) := by rw [← hP, hpe, if_pos hx2, if_pos hsg]
          rw [eP]
          exact ⟨rfl, x + 1, fun t c z h => by injection h with h; injection h with _ h; injection h with _ h, hm'.less (List.Sublist.refl _) (fun q hq => .tail _ hq)⟩
        · simp only [hb46, decide_eq_true_eq, decide_eq_false_iff_not, Bool.and_eq_true, Bool.or_eq_true, Bool.and_eq_false_iff, Bool.or_eq_false_iff, Bool.not_eq_true', Bool.not_eq_false', ne_eq, Decidable.not_not] at hc34
          omega
      · simp only [hb46, decide_eq_true_eq, decide_eq_false_iff_not, Bool.and_eq_true, Bool.or_eq_true, Bool.and_eq_false_iff, Bool.or_eq_false_iff, Bool.not_eq_true', Bool.not_eq_false', ne_eq, Decidable.not_not] at hc34
        have h34b := hc34
        refine rg_text ?_
        refine x_val rfl rfl rfl (v_move rfl) ?_
        refine x_val rfl rfl rfl (v_nilCheck rfl) ?_
        refine x_val rfl rfl rfl (v_fieldAddr (off' := 0) Tryz.underlying95 rfl sz77 (by decide) rfl rfl) ?_
        refine x_val rfl rfl rfl (v_fieldAddr (off' := 3) Tryz.underlying77 rfl sz5 (by decide) rfl rfl) ?_
        refine x_val rfl rfl rfl (v_load Tryz.underlying5 rfl rfl (at_ownL (vs := msgC g s (x + 1)) (List.mem_append_right _ (.head _)) rfl)) ?_
        refine x_bool rfl rfl rfl (v_eql rfl rfl) ?_
        intro b52 hb52
        refine x_val rfl rfl rfl (v_assign rfl) ?_
        refine x_end ?_
        refine t_norm ?_
        refine w_cond rfl (fun hc34 => ?_) (fun hc34 => ?_)
        · simp only [hb52, decide_eq_true_eq, decide_eq_false_iff_not, Bool.and_eq_true, Bool.or_eq_true, Bool.and_eq_false_iff, Bool.or_eq_false_iff, Bool.not_eq_true', Bool.not_eq_false', ne_eq, Decidable.not_not] at hc34
          have hsg : byteAt s x = g.c ∨ byteAt s x = g.e ∨ byteAt s x = g.n := .inr (.inr (u8_lit.1 hc34))
          refine w_seq ?_
          refine rg_text ?_
          refine x_turnf (τ := Unit) (v := .string ⟨bs.toArray⟩) (fun _ => True) (fun _ => l1 ++ (p, Obj.cells (msgC g s (x + 1)).toArray 95) :: l2) rfl rfl Tryz.func52 (by kernel_rfl) rfl (fun w1 hw1 => by
            rw [List.append_assoc] at hw1
            have hB : ∀ q ∈ (bld2 81 5 p5 pp r (bs.length)), w.heap.size ≤ q.1 := hw1.newB (own0 := l1 ++ (p, Obj.cells (msgC g s (a)).toArray 95) :: l2) (.head _) (fun k hk => by simpa using hk)
            have hc := c_BS w1 hw1 hpp hr (B := w.heap.size) (fun q hq => by
              rcases List.mem_cons.1 hq with rfl | hq
              · exact Nat.le_refl _
              · exact (hm.ro_st q hq).2.2.2) (fun q hq => by
                obtain ⟨q2, hq2, e⟩ : ∃ q2 ∈ l1 ++ (p, Obj.cells (msgC g s (a)).toArray 95) :: l2, q2.1 = q.1 := by
                  simp only [List.mem_append, List.mem_cons] at hq ⊢
                  rcases hq with hq | rfl | hq
                  · exact ⟨q, .inl hq, rfl⟩
                  · exact ⟨_, .inr (.inl rfl), rfl⟩
                  · exact ⟨q, .inr (.inr hq), rfl⟩
                rw [← e]; exact hm.lt hq2) hB (hw1.ro_st _ (.head _)).2.2.2
            exact hc.mono fun e w2 h => ⟨h.1, (), trivial, h.2⟩) ?_
          intro _ _
          refine x_val rfl rfl rfl (v_move rfl) ?_
          refine x_val rfl rfl rfl (v_assign rfl) ?_
          refine x_val rfl rfl rfl (v_assign rfl) ?_
          refine x_val rfl rfl rfl (v_assign rfl) ?_
          refine x_end ?_
          refine t_norm ?_
          refine w_ret ?_
          refine b_ret ?_
          refine t_ret ?_
          refine b_ret ?_
          refine t_ret ?_
          refine b_ret ?_
          refine t_ret ?_
          refine ret3 rfl rfl rfl rfl (fun w' hm' => ?_)
          have eP : pieceP s g a [] = some (bs, byteAt s x, x + 1) := by rw [← hP, hpe, if_pos hx2, if_pos hsg]
          rw [eP]
          exact ⟨rfl, x + 1, fun t c z h => by injection h with h; injection h with _ h; injection h with _ h, hm'.less (List.Sublist.refl _) (fun q hq => .tail _ hq)⟩
        · simp only [hb52, decide_eq_true_eq, decide_eq_false_iff_not, Bool.and_eq_true, Bool.or_eq_true, Bool.and_eq_false_iff, Bool.or_eq_false_iff, Bool.not_eq_true', Bool.not_eq_false', ne_eq, Decidable.not_not] at hc34
          have hns : ¬(byteAt s x = g.c ∨ byteAt s x = g.e ∨ byteAt s x = g.n) := fun h => by rcases h with h | h | h <;> (rw [h] at h34a h34b hc34; omega)
          refine w_seq ?_
          refine rg_text ?_
          refine x_val rfl rfl rfl (v_move rfl) ?_
          refine x_val rfl rfl rfl (v_nilCheck rfl) ?_
          refine x_val rfl rfl rfl (v_fieldAddr (off' := 0) Tryz.underlying95 rfl sz77 (by decide) rfl rfl) ?_
          refine x_val rfl rfl rfl (v_fieldAddr (off' := 2) Tryz.underlying77 rfl sz5 (by decide) rfl rfl) ?_
          refine x_val rfl rfl rfl (v_load Tryz.underlying5 rfl rfl (at_ownL (vs := msgC g s (x + 1)) (List.mem_append_right _ (.head _)) rfl)) ?_
          refine x_bool rfl rfl rfl (v_eql rfl rfl) ?_
          intro b61 hb61
          refine x_val rfl rfl rfl (v_assign rfl) ?_
          refine x_end ?_
          refine t_norm ?_
          refine w_cond rfl (fun hc55 => ?_) (fun hc55 => ?_)
          · simp only [hb61, decide_eq_true_eq, decide_eq_false_iff_not, Bool.and_eq_true, Bool.or_eq_true, Bool.and_eq_false_iff, Bool.or_eq_false_iff, Bool.not_eq_true', Bool.not_eq_false', ne_eq, Decidable.not_not] at hc55
            have hrl : byteAt s x = g.r := u8_lit.1 hc55
            refine w_seq ?_
            refine w_seq ?_
            refine rg_draw 10 [(true, 0), (true, 1), (true, 2), (true, 3), (true, 4), (true, 5), (true, 6), (true, 7), (true, 8), (true, 9)] (by kernel_rfl) (by kernel_rfl) ?_
            refine x_val rfl rfl rfl (v_move rfl) ?_
            refine x_val rfl rfl rfl (v_nilCheck rfl) ?_
            refine x_val rfl rfl rfl (v_fieldAddr (off' := 5) Tryz.underlying95 rfl sz3 (by decide) rfl rfl) ?_
            refine x_val rfl rfl rfl (v_load Tryz.underlying3 rfl rfl (at_ownL (vs := msgC g s (x + 1)) (List.mem_append_right _ (.head _)) rfl)) ?_
            refine x_val rfl rfl rfl (v_move rfl) ?_
            refine x_val rfl rfl rfl (v_nilCheck rfl) ?_
            refine x_val rfl rfl rfl (v_fieldAddr (off' := 4) Tryz.underlying95 rfl sz9 (by decide) rfl rfl) ?_
            refine x_val rfl rfl rfl (v_load Tryz.underlying9 rfl rfl (at_ownL (vs := msgC g s (x + 1)) (List.mem_append_right _ (.head _)) rfl)) ?_
            refine x_val rfl rfl rfl (v_len_str Tryz.underlying9 rfl) ?_
            refine x_bool rfl rfl rfl (v_eql rfl rfl) ?_
            intro b71 hb71
            refine x_end ?_
            refine t_norm ?_
            refine w_cond rfl (fun hc71 => ?_) (fun hc71 => ?_)
            · simp only [hb71, decide_eq_true_eq, decide_eq_false_iff_not, Bool.and_eq_true, Bool.or_eq_true, Bool.and_eq_false_iff, Bool.or_eq_false_iff, Bool.not_eq_true', Bool.not_eq_false', ne_eq, Decidable.not_not] at hc71
              have he : x + 1 = s.size := by omega
              refine w_seq ?_
              refine rg_text ?_
              refine x_val rfl rfl rfl (v_assign rfl) ?_
              refine x_val rfl rfl rfl (v_assign rfl) ?_
              refine x_val rfl rfl rfl (v_assign rfl) ?_
              refine x_end ?_
              refine t_norm ?_
              refine w_ret ?_
              refine t_ret ?_
              refine b_ret ?_
              refine t_ret ?_
              refine b_ret ?_
              refine t_ret ?_
              refine b_ret ?_
              refine t_ret ?_
              refine ret3 rfl rfl rfl rfl (fun w' hm' => ?_)
              have eP : pieceP s g a [] = none := by rw [← hP, hpe, if_pos hx2, if_neg hns, if_pos hrl, if_pos he]
              rw [eP]
              exact ⟨rfl, x + 1, fun t c z h => (by cases h), hm'.less (by rw [List.append_assoc]; exact List.sublist_append_right _ _) (fun q hq => .tail _ hq)⟩
            · simp only [hb71, decide_eq_true_eq, decide_eq_false_iff_not, Bool.and_eq_true, Bool.or_eq_true, Bool.and_eq_false_iff, Bool.or_eq_false_iff, Bool.not_eq_true', Bool.not_eq_false', ne_eq, Decidable.not_not] at hc71
              have he : ¬x + 1 = s.size := by omega
              refine w_skip ?_
              refine t_norm ?_
              refine w_seq ?_
              refine rg_draw 10 [(true, 0), (true, 1), (true, 2), (true, 3), (true, 4), (true, 5), (true, 6), (true, 7), (true, 8), (true, 9)] (by kernel_rfl) (by kernel_rfl) ?_
              refine x_val rfl rfl rfl (v_move rfl) ?_
              refine x_val rfl rfl rfl (v_nilCheck rfl) ?_
              refine x_val rfl rfl rfl (v_fieldAddr (off' := 4) Tryz.underlying95 rfl sz9 (by decide) rfl rfl) ?_
              refine x_val rfl rfl rfl (v_load Tryz.underlying9 rfl rfl (at_ownL (vs := msgC g s (x + 1)) (List.mem_append_right _ (.head _)) rfl)) ?_
              refine x_val rfl rfl rfl (v_move rfl) ?_
              refine x_val rfl rfl rfl (v_nilCheck rfl) ?_
              refine x_val rfl rfl rfl (v_fieldAddr (off' := 5) Tryz.underlying95 rfl sz3 (by decide) rfl rfl) ?_
              refine x_val rfl rfl rfl (v_load Tryz.underlying3 rfl rfl (at_ownL (vs := msgC g s (x + 1)) (List.mem_append_right _ (.head _)) rfl)) ?_
              refine x_val rfl rfl rfl (v_index Tryz.underlying9 rfl rfl (by omega)) ?_
              refine x_val rfl rfl rfl (v_assign rfl) ?_
              refine x_end ?_
              refine t_norm ?_
              refine rg_text ?_
              refine x_val rfl rfl rfl (v_move rfl) ?_
              refine x_val rfl rfl rfl (v_nilCheck rfl) ?_
              refine x_val rfl rfl rfl (v_fieldAddr (off' := 5) Tryz.underlying95 rfl sz3 (by decide) rfl rfl) ?_
              refine x_val rfl rfl rfl (v_load Tryz.underlying3 rfl rfl (at_ownL (vs := msgC g s (x + 1)) (List.mem_append_right _ (.head _)) rfl)) ?_
              refine x_val rfl rfl rfl (v_addi rfl rfl rfl (by omega)) ?_
              refine x_val rfl rfl rfl (v_nilCheck rfl) ?_
              refine x_val rfl rfl rfl (v_fieldAddr (off' := 5) Tryz.underlying95 rfl sz3 (by decide) rfl rfl) ?_
              refine x_store ((bld2 81 5 p5 pp r (bs.length)) ++ l1) rfl rfl rfl rfl sz3 rfl (by show 6 ≤ 6; decide) ?_
              refine x_end ?_
              refine b_norm ?_
              refine t_norm ?_
              refine rg_text ?_
              refine x_val rfl rfl rfl (v_move rfl) ?_
              refine x_turnf (τ := RowS) (v := .nilIface) (fun r' => rowOK 1 r' (bs ++ [byteAt s (x + 1)]).length (byC (bs ++ [byteAt s (x + 1)]))) (fun r' => ((bld2 81 5 p5 (.pointer (some ⟨p5, 0, none⟩)) r' ((bs ++ [byteAt s (x + 1)]).length)) ++ l1) ++ (p, Obj.cells (msgC g s (x + 2)).toArray 95) :: l2) rfl rfl Tryz.func49 (by kernel_rfl) rfl (fun w1 hw1 => by
                rw [List.append_assoc] at hw1
                have hc := c_WB w1 hw1 hpp (byteAt s (x + 1)) hr (by omega)
                exact hc.mono fun e w2 ⟨h1, r', h2, h3⟩ => ⟨h1, r', h2, by rw [List.append_assoc]; exact h3⟩) ?_
              intro r' hr'
              refine x_end ?_
              refine b_norm ?_
              exact l_norm (x + 2, bs ++ [byteAt s (x + 1)], (.pointer (some ⟨p5, 0, none⟩)), r') ⟨by dsimp only; omega, by dsimp only; rw [← hP, hpe, if_pos hx2, if_neg hns, if_pos hrl, if_neg he], .inr rfl, hr', by dsimp only; rw [List.length_append, List.length_singleton]; omega⟩ (by simp only; omega) (by repeat (first | exact Sub.nil | refine Sub.cons rfl ?_)) (fun _ h => h)
          · simp only [hb61, decide_eq_true_eq, decide_eq_false_iff_not, Bool.and_eq_true, Bool.or_eq_true, Bool.and_eq_false_iff, Bool.or_eq_false_iff, Bool.not_eq_true', Bool.not_eq_false', ne_eq, Decidable.not_not] at hc55
            have hrl : ¬byteAt s x = g.r := fun h => hc55 (u8_lit.2 h)
            refine w_skip ?_
            refine b_norm ?_
            refine t_norm ?_
            refine rg_text ?_
            refine x_val rfl rfl rfl (v_move rfl) ?_
            refine x_turnf (τ := RowS) (v := .nilIface) (fun r' => rowOK 1 r' (bs ++ [byteAt s x]).length (byC (bs ++ [byteAt s x]))) (fun r' => ((bld2 81 5 p5 (.pointer (some ⟨p5, 0, none⟩)) r' ((bs ++ [byteAt s x]).length)) ++ l1) ++ (p, Obj.cells (msgC g s (x + 1)).toArray 95) :: l2) rfl rfl Tryz.func49 (by kernel_rfl) rfl (fun w1 hw1 => by
              rw [List.append_assoc] at hw1
              have hc := c_WB w1 hw1 hpp (byteAt s x) hr (by omega)
              exact hc.mono fun e w2 ⟨h1, r', h2, h3⟩ => ⟨h1, r', h2, by rw [List.append_assoc]; exact h3⟩) ?_
            intro r' hr'
            refine x_end ?_
            refine b_norm ?_
            exact l_norm (x + 1, bs ++ [byteAt s x], (.pointer (some ⟨p5, 0, none⟩)), r') ⟨by dsimp only; omega, by dsimp only; rw [← hP, hpe, if_pos hx2, if_neg hns, if_neg hrl], .inr rfl, hr', by dsimp only; rw [List.length_append, List.length_singleton]; omega⟩ (by simp only; omega) (by repeat (first | exact Sub.nil | refine Sub.cons rfl ?_)) (fun _ h => h)
  · simp only [hb16, decide_eq_true_eq, decide_eq_false_iff_not, Bool.and_eq_true, Bool.or_eq_true, Bool.and_eq_false_iff, Bool.or_eq_false_iff, Bool.not_eq_true', Bool.not_eq_false', ne_eq, Decidable.not_not] at hc16
    have hx2 : ¬x < s.size := by omega
    refine w_exit ?_
    refine t_exit ?_
    refine t_exit ?_
    refine b_hit ?_
    refine t_norm ?_
    refine w_seq ?_
    refine rg_text ?_
    refine x_val rfl rfl rfl (v_assign rfl) ?_
    refine x_val rfl rfl rfl (v_assign rfl) ?_
    refine x_val rfl rfl rfl (v_assign rfl) ?_
    refine x_end ?_
    refine t_norm ?_
    refine w_ret ?_
    refine ret3 rfl rfl rfl rfl (fun w' hm' => ?_)
    have eP : pieceP s g a [] = none := by rw [← hP, hpe, if_neg hx2]
    rw [eP]
    exact ⟨rfl, x, fun t c z h => (by cases h), hm'.less (by rw [List.append_assoc]; exact List.sublist_append_right _ _) (fun q hq => .tail _ hq)⟩

end Go.Proofs.YtbamklefagghcaaGreatDoor

namespace Go.Proofs.YtbamklefagghcaaGreatDoor
open Go.RowKit Go.PK
set_option linter.unusedVariables false
set_option linter.unusedSimpArgs false
theorem ap54 : (Tryz.prog.info? 54).map (fun j => (j.zero, j.size, j.bytes)) = some (some (.slice none 0 0), 1, 24) := by kernel_rfl
theorem ap9 : (Tryz.prog.info? 9).map (fun j => (j.zero, j.size, j.bytes)) = some (some (.string ⟨#[]⟩), 1, 16) := by kernel_rfl
theorem pieceV_is (x : PieceR) : ∃ (t : ByteArray) (c : UInt8) (k : Bool), pieceV x = .tuple #[.string t, .int .u8 (c.toNat : Nat), .bool k] ∧ (k = true → ∃ l z, x = some (l, c, z) ∧ t = ⟨l.toArray⟩) ∧ (k = false → x = none) := by
  match x with
  | none => exact ⟨_, 0, false, rfl, fun h => (by cases h), fun _ => rfl⟩
  | some (l, c, z) => exact ⟨_, c, true, rfl, fun _ => ⟨l, z, rfl, rfl⟩, fun h => (by cases h)⟩
set_option maxRecDepth 100000 in
theorem c_elements {l1 l2 : List (Nat × Obj)} {ro : List Snap} {p : Nat} (g : Sg) (s : ByteArray) (a : Nat) (w : World) (hm : Mem w (l1 ++ (p, Obj.cells (msgC g s (a)).toArray 95) :: l2) ro) (hs : s.size ≤ 200000000) (ha : a < s.size) (hen : byteAt s a = g.e ∨ byteAt s a = g.n) :
    Calls Tryz.prog 56 #[.pointer (some ⟨p, 0, none⟩)] w fun e w' => ∃ v, e = .returned v ∧ ∃ a', (∃ u, v = .tuple #[u, .bool (elP s g (byteAt s a) (a + 1) []).isSome] ∧ ∀ l z, elP s g (byteAt s a) (a + 1) [] = some (l, z) → a' = z ∧ sliceRd (tySlice tyStr) (fun b => w.heap.size ≤ b) w' u l) ∧ Mem w' (l1 ++ (p, Obj.cells (msgC g s (a')).toArray 95) :: l2) ro := by
  refine enter_in hm.snap (vs := [.pointer (some ⟨p, 0, none⟩)]) Tryz.func56 rfl Tryz.ntmps56 rfl ?_
  refine w_seq ?_
  refine rg_text ?_
  refine x_val rfl rfl rfl (v_assign rfl) ?_
  refine x_val rfl rfl rfl (v_assign rfl) ?_
  refine x_end ?_
  refine t_norm ?_
  refine w_seq ?_
  refine rg_text ?_
  refine x_val rfl rfl rfl (v_assign rfl) ?_
  refine x_end ?_
  refine t_norm ?_
  refine w_seq ?_
  refine w_seq ?_
  refine rg_text ?_
  refine x_val rfl rfl rfl (v_move rfl) ?_
  refine x_turnf (τ := Unit) (v := .int .u8 ((byteAt s a).toNat : Nat)) (fun _ => True) (fun _ => l1 ++ (p, Obj.cells (msgC g s (a + 1)).toArray 95) :: l2) rfl rfl Tryz.func79 (by kernel_rfl) rfl (fun w1 hw1 => (c_next g s a w1 hw1 hs ha).mono fun e w2 h => ⟨h.1, (), trivial, h.2⟩) ?_
  intro _ _
  refine x_val rfl rfl rfl (v_assign rfl) ?_
  refine x_end ?_
  refine t_norm ?_
  refine w_block ?_
  refine w_loop (σ := UInt8 × Nat × List (List ByteArray) × RowS × List RowS) (fun x => x.2.1 ≤ s.size ∧ a < x.2.1 ∧ elP s g x.1 x.2.1 x.2.2.1 = elP s g (byteAt s a) (a + 1) [] ∧ SSOK x.2.2.2.1 x.2.2.2.2 x.2.2.1 ∧ (x.1 = g.e ∨ x.1 = g.n ∨ x.2.2.1 ≠ []) ∧ x.2.2.1.length + 1 ≤ x.2.1 ∧ ∀ y ∈ x.2.2.1, y.length ≤ x.2.1 ∧ ∀ t ∈ y, t.size ≤ s.size) (fun x => [(0, .pointer (some ⟨p, 0, none⟩)), (4, rowV x.2.2.2.1 x.2.2.1.length), (5, Value.int .u8 (x.1.toNat : Nat))]) (fun x => rowO 54 x.2.2.2.1 ++ (inO 9 x.2.2.2.2 ++ (l1 ++ (p, Obj.cells (msgC g s (x.2.1)).toArray 95) :: l2))) (fun x => (w, notOwn (l1 ++ (p, Obj.cells (msgC g s (a)).toArray 95) :: l2)) :: ro) (fun x => s.size + 1 - x.2.1) ((byteAt s a, a + 1, [], none, [])) (⟨ha, Nat.lt_succ_self _, rfl, SSOK.nil, by rcases hen with h | h; (· exact .inl h); exact .inr (.inl h), by dsimp only [List.length_nil]; omega, fun y hy => by cases hy⟩) (l_start (by repeat (first | exact Sub.nil | refine Sub.cons rfl ?_)) (fun _ h => h)) ?_
  rintro ⟨c, x, xs, R, Ss⟩ ⟨hx, hax, hE, hS, hne, hz1, hz2⟩
  refine w_state ([(0, .pointer (some ⟨p, 0, none⟩)), (4, rowV R xs.length), (5, Value.int .u8 (c.toNat : Nat))]) (rowO 54 R ++ (inO 9 Ss ++ (l1 ++ (p, Obj.cells (msgC g s (x)).toArray 95) :: l2))) ((w, notOwn (l1 ++ (p, Obj.cells (msgC g s (a)).toArray 95) :: l2)) :: ro) ?_
  dsimp only at hx hax hE hS hne hz1 hz2
  have hee := el_eq s g c x xs
  refine w_seq ?_
  refine w_seq ?_
  refine rg_text ?_
  refine x_val rfl rfl rfl (v_move rfl) ?_
  refine x_val rfl rfl rfl (v_move rfl) ?_
  refine x_val rfl rfl rfl (v_nilCheck rfl) ?_
  refine x_val rfl rfl rfl (v_fieldAddr (off' := 0) Tryz.underlying95 rfl sz77 (by decide) rfl rfl) ?_
  refine x_val rfl rfl rfl (v_fieldAddr (off' := 3) Tryz.underlying77 rfl sz5 (by decide) rfl rfl) ?_
  refine x_val rfl rfl rfl (v_load Tryz.underlying5 rfl rfl (at_ownL (vs := msgC g s (x)) (List.mem_append_right _ (List.mem_append_right _ (List.mem_append_right _ (.head _)))) rfl)) ?_
  refine x_bool rfl rfl rfl (v_neq rfl rfl) ?_
  intro b17 hb17
  refine x_end ?_
  refine t_norm ?_
  refine w_cond rfl (fun hc17 => ?_) (fun hc17 => ?_)
  · simp only [hb17, decide_eq_true_eq, decide_eq_false_iff_not, Bool.and_eq_true, Bool.or_eq_true, Bool.and_eq_false_iff, Bool.or_eq_false_iff, Bool.not_eq_true', Bool.not_eq_false', ne_eq, Decidable.not_not] at hc17
    have hcn : ¬c = g.n := fun h => hc17 (u8_lit.2 h)
    rw [if_neg hcn] at hee
    refine w_skip ?_
    refine t_norm ?_
    refine w_block ?_
    refine w_seq_cut (σ := List (List ByteArray) × RowS × List RowS) (fun q => q.1 = newEl g c xs ∧ q.1 ≠ [] ∧ SSOK q.2.1 q.2.2 q.1 ∧ q.1.length ≤ x ∧ ∀ y ∈ q.1, y.length ≤ x ∧ ∀ t ∈ y, t.size ≤ s.size) (fun q => [(0, .pointer (some ⟨p, 0, none⟩)), (4, rowV q.2.1 q.1.length)]) (fun q => rowO 54 q.2.1 ++ (inO 9 q.2.2 ++ (l1 ++ (p, Obj.cells (msgC g s (x)).toArray 95) :: l2))) (fun q => (w, notOwn (l1 ++ (p, Obj.cells (msgC g s (a)).toArray 95) :: l2)) :: ro) ?_ ?_
    · refine w_seq ?_
      refine rg_text ?_
      refine x_val rfl rfl rfl (v_move rfl) ?_
      refine x_val rfl rfl rfl (v_move rfl) ?_
      refine x_val rfl rfl rfl (v_nilCheck rfl) ?_
      refine x_val rfl rfl rfl (v_fieldAddr (off' := 0) Tryz.underlying95 rfl sz77 (by decide) rfl rfl) ?_
      refine x_val rfl rfl rfl (v_fieldAddr (off' := 1) Tryz.underlying77 rfl sz5 (by decide) rfl rfl) ?_
      refine x_val rfl rfl rfl (v_load Tryz.underlying5 rfl rfl (at_ownL (vs := msgC g s (x)) (List.mem_append_right _ (List.mem_append_right _ (List.mem_append_right _ (.head _)))) rfl)) ?_
      refine x_bool rfl rfl rfl (v_eql rfl rfl) ?_
      intro b24 hb24
      refine x_end ?_
      refine t_norm ?_
      refine w_cond rfl (fun hc24 => ?_) (fun hc24 => ?_)
      · simp only [hb24, decide_eq_true_eq, decide_eq_false_iff_not, Bool.and_eq_true, Bool.or_eq_true, Bool.and_eq_false_iff, Bool.or_eq_false_iff, Bool.not_eq_true', Bool.not_eq_false', ne_eq, Decidable.not_not] at hc24
        have hce : c = g.e := u8_lit.1 hc24
        refine rg_text ?_
        refine x_val rfl rfl rfl (v_move rfl) ?_
        refine x_buildSliceL rfl rfl rfl Tryz.underlying47 sz54 zr54 rfl rfl rfl ?_
        intro p26
        refine x_append (e := 54) [(p26, _)] (l2 := inO 9 Ss ++ (l1 ++ (p, Obj.cells (msgC g s (x)).toArray 95) :: l2)) R (len := xs.length) (xs := ssC xs Ss) rfl rfl rfl rfl rfl hS.row Tryz.underlying47 ap54 rfl rfl (m := 1) (news := [Value.slice none 0 0]) (fun i hi => at_ownL (vs := [Value.slice none 0 0]) (.head _) (by rw [Nat.zero_add]; exact List.getElem?_eq_getElem hi)) rfl (by simp only [maxLen]; omega) (by omega) ?_
        intro R' hR'
        refine x_val rfl rfl rfl (v_assign rfl) ?_
        refine x_end ?_
        exact c_norm (xs ++ [[]], R', Ss ++ [none]) (⟨by unfold newEl; rw [if_pos hce], by simp, hS.snoc hR' rowOK_nil, by dsimp only; rw [List.length_append, List.length_singleton]; omega, fun y hy => by rcases List.mem_append.1 hy with h | h; (· exact hz2 y h); rw [List.mem_singleton.1 h]; exact ⟨Nat.zero_le _, fun t ht => by cases ht⟩⟩) (by dsimp only; rw [List.length_append, List.length_singleton]; repeat (first | exact Sub.nil | refine Sub.cons rfl ?_)) (fun w1 h => (h.less (List.sublist_cons_self _ _) (fun _ h => h)).to (by dsimp only; rw [inO_snoc]; rfl))
      · simp only [hb24, decide_eq_true_eq, decide_eq_false_iff_not, Bool.and_eq_true, Bool.or_eq_true, Bool.and_eq_false_iff, Bool.or_eq_false_iff, Bool.not_eq_true', Bool.not_eq_false', ne_eq, Decidable.not_not] at hc24
        have hce : ¬c = g.e := fun h => hc24 (u8_lit.2 h)
        refine w_skip ?_
        exact c_norm (xs, R, Ss) (⟨by unfold newEl; rw [if_neg hce], by rcases hne with h | h | h; (· exact absurd h hce); (· exact absurd h hcn); exact h, hS, by dsimp only; omega, hz2⟩) (by repeat (first | exact Sub.nil | refine Sub.cons rfl ?_)) (fun _ h => h)
    · rintro ⟨zs, R2, S2⟩ ⟨hzs, hzn, hS2, hy1, hy2⟩
      refine w_state ([(0, .pointer (some ⟨p, 0, none⟩)), (4, rowV R2 zs.length)]) (rowO 54 R2 ++ (inO 9 S2 ++ (l1 ++ (p, Obj.cells (msgC g s (x)).toArray 95) :: l2))) ((w, notOwn (l1 ++ (p, Obj.cells (msgC g s (a)).toArray 95) :: l2)) :: ro) ?_
      dsimp only at hzs hzn hS2 hy1 hy2
      obtain ⟨pt, pc, pk, hpv, hpt, hpf⟩ := pieceV_is (pieceP s g x [])
      refine w_seq ?_
      refine rg_text ?_
      refine x_val rfl rfl rfl (v_move rfl) ?_
      refine x_turnf (τ := Nat) (v := .tuple #[.string pt, .int .u8 (pc.toNat : Nat), .bool pk]) (fun z => ∀ t c' u, pieceP s g x [] = some (t, c', u) → z = u) (fun z => rowO 54 R2 ++ (inO 9 S2 ++ (l1 ++ (p, Obj.cells (msgC g s (z)).toArray 95) :: l2))) rfl rfl Tryz.func80 (by kernel_rfl) rfl (fun w1 hw1 => by
        have h1 : Mem w1 ((rowO 54 R2 ++ (inO 9 S2 ++ l1)) ++ (p, Obj.cells (msgC g s (x)).toArray 95) :: l2) ro := (hw1.less (List.Sublist.refl _) (fun _ h => .tail _ h)).to (by simp [List.append_assoc])
        have h1 := hw1.to (own' := (rowO 54 R2 ++ (inO 9 S2 ++ l1)) ++ (p, Obj.cells (msgC g s (x)).toArray 95) :: l2) (by simp [List.append_assoc])
        exact (c_piece g s x w1 h1 hs hx).mono fun e w2 ⟨h2, z, h3, h4⟩ => ⟨by rw [h2, hpv], z, h3, h4.to (by simp [List.append_assoc])⟩) ?_
      intro az haz
      refine x_val rfl rfl rfl (v_move rfl) ?_
      refine x_val rfl rfl rfl (v_extract rfl rfl) ?_
      refine x_val rfl rfl rfl (v_extract rfl rfl) ?_
      refine x_bool rfl rfl rfl (v_extract rfl rfl) ?_
      intro b33 hb33
      refine x_val rfl rfl rfl (v_assign rfl) ?_
      refine x_val rfl rfl rfl (v_assign rfl) ?_
      refine x_val rfl rfl rfl (v_assign rfl) ?_
      refine x_end ?_
      refine t_norm ?_
      refine w_seq ?_
      refine w_seq ?_
      refine rg_text ?_
      refine x_val rfl rfl rfl (v_move rfl) ?_
      refine x_bool rfl rfl rfl (v_not rfl) ?_
      intro b35 hb35
      refine x_end ?_
      refine t_norm ?_
      refine w_cond rfl (fun hc35 => ?_) (fun hc35 => ?_)
      · have hk : pk = false := by rw [hb35] at hc35; subst hb33; simpa using hc35
        have hnone : elP s g (byteAt s a) (a + 1) [] = none := by rw [← hE, hee, hpf hk]
        refine w_seq ?_
        refine rg_text ?_
        refine x_val rfl rfl rfl (v_assign rfl) ?_
        refine x_val rfl rfl rfl (v_assign rfl) ?_
        refine x_end ?_
        refine t_norm ?_
        refine w_ret ?_
        refine t_ret ?_
        refine b_ret ?_
        refine t_ret ?_
        refine b_ret ?_
        refine t_ret ?_
        refine ret2 rfl rfl rfl (fun w' hm' => ⟨_, rfl, az, ⟨_, by rw [hnone]; rfl, fun l z h => ?_⟩, ?_⟩)
        · rw [hnone] at h; cases h
        · exact hm'.less ((List.sublist_append_right _ _).trans (List.sublist_append_right _ _)) (fun _ h => .tail _ h)
      · have hk : pk = true := by rw [hb35] at hc35; subst hb33; simpa using hc35
        obtain ⟨pl, pz, hpp, rfl⟩ := hpt hk
        obtain rfl := haz _ _ _ hpp
        obtain ⟨hp1, hp2, hp3, hp4⟩ := piece_adv hpp
        have hptz : (⟨pl.toArray⟩ : ByteArray).size ≤ s.size := by show (List.toArray pl).size ≤ _; rw [List.size_toArray]; simp only [List.length_nil] at hp3; omega
        obtain ⟨ys, y, Ts, S, bb, cs, cp, rfl, rfl, rfl⟩ := hS2.last hzn
        rw [inO_snoc, List.append_assoc]
        obtain ⟨hla, hlt⟩ := hS2.lastAt
        have hyl := hy2 y (by simp)
        have hzl : ys.length + 1 ≤ x := by simpa using hy1
        have hcp : ys.length + 1 ≤ cp := by have := hS2.row.2.1; simpa using this
        refine w_skip ?_
        refine t_norm ?_
        refine w_seq ?_
        refine rg_text ?_
        refine x_val rfl rfl rfl (v_move rfl) ?_
        refine x_val rfl rfl rfl (v_move rfl) ?_
        refine x_val rfl rfl rfl (v_len_slice Tryz.underlying47 rfl) ?_
        refine x_val rfl rfl rfl (v_subi (c := (ys.length : Int)) rfl rfl (by simp only [List.length_append, List.length_singleton]; omega) (by omega)) ?_
        refine x_val rfl rfl rfl (v_move rfl) ?_
        refine x_val rfl rfl rfl (v_move rfl) ?_
        refine x_val rfl rfl rfl (v_len_slice Tryz.underlying47 rfl) ?_
        refine x_val rfl rfl rfl (v_subi (c := (ys.length : Int)) rfl rfl (by simp only [List.length_append, List.length_singleton]; omega) (by omega)) ?_
        refine x_val rfl rfl rfl (v_indexAddr Tryz.underlying47 sz54 rfl rfl (by simp only [List.length_append, List.length_singleton]; omega) rfl) ?_
        refine x_val rfl rfl rfl (v_load Tryz.underlying54 rfl rfl (at_ownL (vs := cs) (.head _) (show cs[0 + ys.length * 1]? = some (rowV S y.length) from by rw [Nat.mul_one, Nat.zero_add]; exact hla))) ?_
        refine x_val rfl rfl rfl (v_move rfl) ?_
        refine x_buildSliceL rfl rfl rfl Tryz.underlying54 sz9 zr9 rfl rfl rfl ?_
        intro p47
        refine x_append (e := 9) [(p47, _), (bb, .cells cs.toArray 54 (0, 0))] (l2 := inO 9 Ts ++ (l1 ++ (p, Obj.cells (msgC g s (az)).toArray 95) :: l2)) S (len := y.length) (xs := y.map Value.string) rfl rfl rfl rfl rfl hS2.lastOK Tryz.underlying54 ap9 rfl rfl (m := 1) (news := [Value.string ⟨pl.toArray⟩]) (fun i hi => at_ownL (vs := [Value.string ⟨pl.toArray⟩]) (.head _) (by rw [Nat.zero_add]; exact List.getElem?_eq_getElem hi)) rfl (by simp only [maxLen]; omega) (by omega) ?_
        intro S' hS'
        refine x_val rfl rfl rfl (v_indexAddr Tryz.underlying47 sz54 rfl rfl (by simp only [List.length_append, List.length_singleton]; omega) rfl) ?_
        refine x_store (cs := cs) (off := 0 + ys.length * 1) [(p47, _)] rfl rfl rfl rfl sz54 rfl (by rw [Nat.mul_one, Nat.zero_add]; omega) ?_
        rw [show 0 + ys.length * 1 = ys.length by omega, put_cell hlt]
        refine x_end ?_
        refine t_norm ?_
        refine rg_text ?_
        refine x_val rfl rfl rfl (v_move rfl) ?_
        refine x_val rfl rfl rfl (v_assign rfl) ?_
        refine x_end ?_
        refine b_norm ?_
        have hS3 : SSOK (some (bb, cs.set ys.length (rowV S' (y.length + 1)), cp)) (Ts ++ [S']) (ys ++ [y ++ [⟨pl.toArray⟩]]) := by have h := hS2.setlast (S' := S') (y' := y ++ [⟨pl.toArray⟩]) (by simpa using hS'); simpa using h
        refine l_norm (pc, az, ys ++ [y ++ [⟨pl.toArray⟩]], some (bb, cs.set ys.length (rowV S' (y.length + 1)), cp), Ts ++ [S']) ⟨hp2, by dsimp only; omega, by dsimp only; rw [← hE, hee, hpp, ← hzs]; show _ = elP s g pc az (addLast (ys ++ [y]) ⟨pl.toArray⟩); rw [addLast_snoc], hS3, .inr (.inr (by simp)), by dsimp only; rw [List.length_append, List.length_singleton]; omega, fun y' hy' => ?_⟩ (by simp only; omega) (by dsimp only; rw [show (ys ++ [y ++ [(⟨pl.toArray⟩ : ByteArray)]]).length = (ys ++ [y]).length by simp]; repeat (first | exact Sub.nil | refine Sub.cons rfl ?_)) (fun w1 h => (h.less (List.sublist_cons_self _ _) (fun _ h => h)).to (by dsimp only; rw [inO_snoc, List.append_assoc]; rfl))
        rcases List.mem_append.1 hy' with h | h
        · obtain ⟨q1, q2⟩ := hy2 y' (List.mem_append_left _ h); exact ⟨by dsimp only; omega, q2⟩
        · rw [List.mem_singleton.1 h]; refine ⟨by dsimp only; rw [List.length_append, List.length_singleton]; omega, fun t ht => ?_⟩
          rcases List.mem_append.1 ht with ht | ht
          · exact hyl.2 t ht
          · rw [List.mem_singleton.1 ht]; exact hptz
  · have hcn : c = g.n := by rw [hb17] at hc17; exact u8_lit.1 (of_decide_eq_true (by simpa using hc17))
    rw [if_pos hcn] at hee
    refine w_exit ?_
    refine t_exit ?_
    refine t_exit ?_
    refine b_hit ?_
    refine t_norm ?_
    refine w_seq ?_
    refine rg_text ?_
    refine x_val rfl rfl rfl (v_move rfl) ?_
    refine x_val rfl rfl rfl (v_assign rfl) ?_
    refine x_val rfl rfl rfl (v_assign rfl) ?_
    refine x_end ?_
    refine t_norm ?_
    refine w_ret ?_
    refine ret2 rfl rfl rfl (fun w' hm' => ?_)
    have eP : elP s g (byteAt s a) (a + 1) [] = some (xs, x) := by rw [← hE, hee]
    have hm2 := hm'.to (own' := (rowO 54 R ++ inO 9 Ss) ++ (l1 ++ (p, Obj.cells (msgC g s (x)).toArray 95) :: l2)) (by simp [List.append_assoc])
    have hnew := hm2.newB (own0 := l1 ++ (p, Obj.cells (msgC g s (a)).toArray 95) :: l2) (.head _) (fun k hk => by simpa using hk)
    refine ⟨_, rfl, x, ⟨_, by rw [eP]; rfl, fun l z h => ?_⟩, ?_⟩
    · rw [eP] at h; injection h with h; injection h with h1 h2; subst h1; subst h2
      exact ⟨rfl, hS.rd (eR := 54) (eS := 9) rfl (fun q hq t ht => by have := (hz2 q hq).2 t ht; unfold okS; omega) hm2 (fun q hq => List.mem_append_left _ (List.mem_append_left _ hq)) (fun q hq => List.mem_append_left _ (List.mem_append_right _ hq)) (fun q hq => hnew q (List.mem_append_left _ hq)) (fun q hq => hnew q (List.mem_append_right _ hq))⟩
    · exact hm2.less (List.sublist_append_right _ _) (fun _ h => .tail _ h)

end Go.Proofs.YtbamklefagghcaaGreatDoor

namespace Go.Proofs.YtbamklefagghcaaGreatDoor
open Go.RowKit Go.PK
set_option linter.unusedVariables false
set_option linter.unusedSimpArgs false
set_option maxRecDepth 100000 in
theorem c_hasPre (s p : ByteArray) (w : World) :
    Calls Tryz.prog 90 #[.string s, .string p] w fun e w' => e = .returned (.bool (pre s p)) ∧ Later w w' := by
  refine enter (vs := [.string s, .string p]) Tryz.func90 rfl Tryz.ntmps90 rfl ?_
  refine w_seq ?_
  refine rg_text ?_
  refine x_val rfl rfl rfl (v_assign rfl) ?_
  refine x_end ?_
  refine t_norm ?_
  refine w_seq ?_
  refine rg_text ?_
  refine x_val rfl rfl rfl (v_move rfl) ?_
  refine x_val rfl rfl rfl (v_len_str Tryz.underlying9 rfl) ?_
  refine x_val rfl rfl rfl (v_move rfl) ?_
  refine x_val rfl rfl rfl (v_len_str Tryz.underlying9 rfl) ?_
  refine x_bool rfl rfl rfl (v_geq rfl rfl) ?_
  intro b9 hb9
  refine x_val rfl rfl rfl (v_move rfl) ?_
  refine x_if [] rfl rfl rfl rfl rfl (fun hg => by obtain ⟨hg0, _⟩ := hg; subst hg0; (try simp only [List.cons_append, List.nil_append, gvl_nil, gvl_t, gvl_f]); exact v_move rfl) ?_
  refine x_if [] rfl rfl rfl rfl rfl (fun hg => by obtain ⟨hg0, _⟩ := hg; subst hg0; (try simp only [List.cons_append, List.nil_append, gvl_nil, gvl_t, gvl_f]); exact v_move rfl) ?_
  refine x_if [] rfl rfl rfl rfl rfl (fun hg => by obtain ⟨hg0, _⟩ := hg; subst hg0; (try simp only [List.cons_append, List.nil_append, gvl_nil, gvl_t, gvl_f]); exact v_len_str Tryz.underlying9 rfl) ?_
  refine x_if [] rfl rfl rfl rfl rfl (fun hg => by obtain ⟨hg0, _⟩ := hg; subst hg0; (try simp only [List.cons_append, List.nil_append, gvl_nil, gvl_t, gvl_f]); have h1 := of_decide_eq_true hb9.symm; exact v_cut_to Tryz.underlying9 rfl rfl (by first | omega | (dsimp only; omega))) ?_
  refine x_if [] rfl rfl rfl rfl rfl (fun hg => by obtain ⟨hg0, _⟩ := hg; subst hg0; (try simp only [List.cons_append, List.nil_append, gvl_nil, gvl_t, gvl_f]); exact v_move rfl) ?_
  refine x_ifb [] rfl rfl rfl rfl rfl (fun hg => by obtain ⟨hg0, _⟩ := hg; subst hg0; (try simp only [List.cons_append, List.nil_append, gvl_nil, gvl_t, gvl_f]); exact v_seql rfl rfl) ?_
  intro b16 hb16
  refine x_bool rfl rfl rfl (v_and rfl rfl) ?_
  intro b17 hb17
  refine x_val rfl rfl rfl (v_assign rfl) ?_
  refine x_end ?_
  refine t_norm ?_
  refine w_ret ?_
  refine ret1 rfl rfl (fun w' hm => ⟨?_, hm.base (by simp)⟩)
  simp [hb17, hb16, hb9, pre]
set_option maxRecDepth 100000 in
theorem c_hasPrefix (s p : ByteArray) (w : World) :
    Calls Tryz.prog 77 #[.string s, .string p] w fun e w' => e = .returned (.bool (pre s p)) ∧ Later w w' := by
  refine enter (vs := [.string s, .string p]) Tryz.func77 rfl Tryz.ntmps77 rfl ?_
  refine w_seq ?_
  refine rg_text ?_
  refine x_val rfl rfl rfl (v_assign rfl) ?_
  refine x_end ?_
  refine t_norm ?_
  refine w_seq ?_
  refine rg_text ?_
  refine x_val rfl rfl rfl (v_move rfl) ?_
  refine x_val rfl rfl rfl (v_move rfl) ?_
  refine x_callb rfl rfl rfl Tryz.func90 (by kernel_rfl) rfl (fun w hw => c_hasPre _ _ w) ?_
  intro b7 hb7
  refine x_val rfl rfl rfl (v_assign rfl) ?_
  refine x_end ?_
  refine t_norm ?_
  refine w_ret ?_
  refine ret1 rfl rfl (fun w' hm => ⟨?_, hm.base (by simp)⟩)
  rw [hb7]
def openV (A : Option Addr) (own : List (Nat × Obj)) (s : ByteArray) : Option (Sg × Nat) → Prop
  | none => A = none ∧ own = []
  | some (g, a) => ∃ p, A = some ⟨p, 0, none⟩ ∧ own = [(p, Obj.cells (msgC g s a).toArray 95)]
set_option maxRecDepth 100000 in
theorem c_open (s : ByteArray) (w : World) (hs : s.size ≤ 200000000) :
    Calls Tryz.prog 53 #[.string s] w fun e w' => ∃ A own, e = .returned (.tuple #[.pointer A, .int .i64 (openR s).2.1, .int .i64 (openR s).2.2]) ∧ openV A own s (openR s).1 ∧ Mem w' own [(w, fun _ => True)] := by
  refine enter (vs := [.string s]) Tryz.func53 rfl Tryz.ntmps53 rfl ?_
  refine w_seq ?_
  refine rg_text ?_
  refine x_val rfl rfl rfl (v_assign rfl) ?_
  refine x_val rfl rfl rfl (v_assign rfl) ?_
  refine x_val rfl rfl rfl (v_assign rfl) ?_
  refine x_end ?_
  refine t_norm ?_
  refine w_seq ?_
  refine rg_text ?_
  refine x_callv rfl rfl rfl Tryz.func46 (by kernel_rfl) rfl (fun w1 hw1 => c_usual w1) ?_
  refine x_val rfl rfl rfl (v_move rfl) ?_
  refine x_val rfl rfl rfl (v_buildL (places := [(0, 4), (4, 1), (5, 1)]) Tryz.underlying95 zr95 (by kernel_rfl) rfl rfl) ?_
  refine x_box rfl rfl rfl rfl ?_
  intro p9
  refine x_val rfl rfl rfl (v_assign rfl) ?_
  refine x_end ?_
  refine t_norm ?_
  refine w_seq ?_
  refine w_seq ?_
  refine rg_text ?_
  refine x_val rfl rfl rfl (v_move rfl) ?_
  refine x_callb rfl rfl rfl Tryz.func77 (by kernel_rfl) rfl (fun w1 hw1 => c_hasPrefix _ _ w1) ?_
  intro b11 hb11
  refine x_bool rfl rfl rfl (v_not rfl) ?_
  intro b12 hb12
  refine x_end ?_
  refine t_norm ?_
  refine w_cond rfl (fun hc12 => ?_) (fun hc12 => ?_)
  · have hu : ¬unaP s := by rw [hb12, hb11, pre_una] at hc12; simpa using hc12
    have eO : openR s = (some (usualG, 0), 0, 0) := by unfold openR; rw [if_neg hu]
    refine w_seq ?_
    refine rg_text ?_
    refine x_val rfl rfl rfl (v_move rfl) ?_
    refine x_val rfl rfl rfl (v_assign rfl) ?_
    refine x_val rfl rfl rfl (v_assign rfl) ?_
    refine x_val rfl rfl rfl (v_assign rfl) ?_
    refine x_end ?_
    refine t_norm ?_
    refine w_ret ?_
    refine t_ret ?_
    refine ret3 rfl rfl rfl rfl (fun w' hm' => ⟨some ⟨p9, 0, none⟩, [(p9, Obj.cells (msgC usualG s 0).toArray 95)], by rw [eO], by rw [eO]; exact ⟨p9, rfl, rfl⟩, hm'⟩)
  · have hu : unaP s := by rw [hb12, hb11, pre_una] at hc12; simpa using hc12
    refine w_skip ?_
    refine t_norm ?_
    refine w_seq ?_
    refine w_seq ?_
    refine rg_text ?_
    refine x_val rfl rfl rfl (v_move rfl) ?_
    refine x_val rfl rfl rfl (v_len_str Tryz.underlying9 rfl) ?_
    refine x_bool rfl rfl rfl (v_lss rfl rfl) ?_
    intro b16 hb16
    refine x_end ?_
    refine t_norm ?_
    refine w_cond rfl (fun hc16 => ?_) (fun hc16 => ?_)
    · simp only [hb16, decide_eq_true_eq, decide_eq_false_iff_not, Bool.and_eq_true, Bool.or_eq_true, Bool.and_eq_false_iff, Bool.or_eq_false_iff, Bool.not_eq_true', Bool.not_eq_false', ne_eq, Decidable.not_not] at hc16
      have h9 : s.size < 9 := by omega
      have eO : openR s = (none, ((s.size : Nat) : Int), 10) := by unfold openR; rw [if_pos hu, if_pos h9]
      refine w_seq ?_
      refine rg_text ?_
      refine x_val rfl rfl rfl (v_move rfl) ?_
      refine x_val rfl rfl rfl (v_len_str Tryz.underlying9 rfl) ?_
      refine x_val rfl rfl rfl (v_assign rfl) ?_
      refine x_val rfl rfl rfl (v_assign rfl) ?_
      refine x_val rfl rfl rfl (v_assign rfl) ?_
      refine x_end ?_
      refine t_norm ?_
      refine w_ret ?_
      refine t_ret ?_
      refine ret3 rfl rfl rfl rfl (fun w' hm' => ⟨none, [], by rw [eO], by rw [eO]; exact ⟨rfl, rfl⟩, hm'.less (List.nil_sublist _) (fun _ h => h)⟩)
    · simp only [hb16, decide_eq_true_eq, decide_eq_false_iff_not, Bool.and_eq_true, Bool.or_eq_true, Bool.and_eq_false_iff, Bool.or_eq_false_iff, Bool.not_eq_true', Bool.not_eq_false', ne_eq, Decidable.not_not] at hc16
      have h9 : ¬s.size < 9 := by omega
      refine w_skip ?_
      refine t_norm ?_
      refine w_seq ?_
      refine rg_inv ([]) 17 (.flt 0 (.flt 1 (.flt 2 (.flt 3 (.flt 4 (.flt 5 (.flt 6 (.flt 7 (.flt 8 (.flt 9 (.flt 10 (.flt 11 (.flt 12 (.gr 13 (.flt 14 (.flt 15 (.gr 16 .done .nil))) .nil)))))))))))))) (List.nil_sublist _) (by kernel_rfl) (by kernel_rfl) ?_
      refine j_val rfl rfl (v_move rfl) ?_
      refine j_val rfl rfl (v_move rfl) ?_
      refine j_val rfl rfl (v_move rfl) ?_
      refine j_val rfl rfl (v_index (j := 3) Tryz.underlying9 rfl rfl (by omega)) ?_
      refine j_val rfl rfl (v_move rfl) ?_
      refine j_val rfl rfl (v_index (j := 4) Tryz.underlying9 rfl rfl (by omega)) ?_
      refine j_val rfl rfl (v_move rfl) ?_
      refine j_val rfl rfl (v_index (j := 6) Tryz.underlying9 rfl rfl (by omega)) ?_
      refine j_val rfl rfl (v_move rfl) ?_
      refine j_val rfl rfl (v_index (j := 8) Tryz.underlying9 rfl rfl (by omega)) ?_
      refine j_val rfl rfl (v_buildL (places := [(0, 1), (1, 1), (2, 1), (3, 1)]) Tryz.underlying77 zr77 (by kernel_rfl) rfl rfl) ?_
      refine j_val rfl rfl (v_nilCheck rfl) ?_
      refine j_val rfl rfl (v_fieldAddr (off' := 0) Tryz.underlying95 rfl sz77 (by decide) rfl rfl) ?_
      refine j_gr ?_ j_nil
      refine x_store (cs := msgC usualG s 0) (off := 0) [] rfl rfl rfl rfl sz77 rfl (by show 4 ≤ 6; decide) ?_
      refine x_end ?_
      refine j_end (List.nil_sublist _) ?_
      refine j_val rfl rfl (v_nilCheck rfl) ?_
      refine j_val rfl rfl (v_fieldAddr (off' := 5) Tryz.underlying95 rfl sz3 (by decide) rfl rfl) ?_
      refine j_gr ?_ j_nil
      refine x_store (cs := msgC (ownG s) s 0) (off := 5) [] rfl rfl rfl rfl sz3 rfl (by show 6 ≤ 6; decide) ?_
      refine x_end ?_
      refine j_end (List.nil_sublist _) ?_
      refine j_done ?_
      refine x_end ?_
      refine t_norm ?_
      refine w_seq ?_
      refine w_seq ?_
      refine w_state _ [(p9, Obj.cells (msgC (ownG s) s (9)).toArray 95)] _ ?_
      refine rg_text ?_
      refine x_val rfl rfl rfl (v_move rfl) ?_
      refine x_val rfl rfl rfl (v_nilCheck rfl) ?_
      refine x_val rfl rfl rfl (v_fieldAddr (off' := 0) Tryz.underlying95 rfl sz77 (by decide) rfl rfl) ?_
      refine x_val rfl rfl rfl (v_loadN (vs := (ownG s).cells) Tryz.underlying77 rfl sz77 rfl (fun j hj => at_ownL (vs := msgC (ownG s) s 9) (.head _) (by match j, hj with | 0, _ => rfl | 1, _ => rfl | 2, _ => rfl | 3, _ => rfl))) ?_
      refine x_callb rfl rfl rfl Tryz.func78 (by kernel_rfl) rfl (fun w1 hw1 => c_right (ownG s) w1) ?_
      intro b38 hb38
      refine x_bool rfl rfl rfl (v_not rfl) ?_
      intro b39 hb39
      refine x_end ?_
      refine t_norm ?_
      refine w_cond rfl (fun hc39 => ?_) (fun hc39 => ?_)
      · have hr : ¬rightS (ownG s) := by rw [hb39, hb38] at hc39; simpa using hc39
        have eO : openR s = (none, 3, 11) := by unfold openR; rw [if_pos hu, if_neg h9, if_neg hr]
        refine w_seq ?_
        refine rg_text ?_
        refine x_val rfl rfl rfl (v_assign rfl) ?_
        refine x_val rfl rfl rfl (v_assign rfl) ?_
        refine x_val rfl rfl rfl (v_assign rfl) ?_
        refine x_end ?_
        refine t_norm ?_
        refine w_ret ?_
        refine t_ret ?_
        refine ret3 rfl rfl rfl rfl (fun w' hm' => ⟨none, [], by rw [eO], by rw [eO]; exact ⟨rfl, rfl⟩, hm'.less (List.nil_sublist _) (fun _ h => h)⟩)
      · have hr : rightS (ownG s) := by rw [hb39, hb38] at hc39; simpa using hc39
        have eO : openR s = (some (ownG s, 9), 0, 0) := by unfold openR; rw [if_pos hu, if_neg h9, if_pos hr]
        refine w_skip ?_
        refine t_norm ?_
        refine w_seq ?_
        refine rg_text ?_
        refine x_val rfl rfl rfl (v_move rfl) ?_
        refine x_val rfl rfl rfl (v_assign rfl) ?_
        refine x_val rfl rfl rfl (v_assign rfl) ?_
        refine x_val rfl rfl rfl (v_assign rfl) ?_
        refine x_end ?_
        refine t_norm ?_
        refine w_ret ?_
        refine ret3 rfl rfl rfl rfl (fun w' hm' => ⟨some ⟨p9, 0, none⟩, [(p9, Obj.cells (msgC (ownG s) s 9).toArray 95)], by rw [eO], by rw [eO]; exact ⟨p9, rfl, rfl⟩, hm'⟩)

end Go.Proofs.YtbamklefagghcaaGreatDoor

namespace Go.Proofs.YtbamklefagghcaaGreatDoor
open Go.RowKit Go.PK
set_option linter.unusedVariables false
set_option linter.unusedSimpArgs false
theorem ap49 : (Tryz.prog.info? 49).map (fun j => (j.zero, j.size, j.bytes)) = some (some (.agg #[.string ⟨#[]⟩, .slice none 0 0]), 2, 40) := by kernel_rfl
set_option maxRecDepth 100000 in
theorem c_Parse (s : ByteArray) (w : World) (hs : s.size ≤ 200000000) :
    Calls Tryz.prog 23 #[.string s] w fun e w' => ∃ v, e = .returned (.tuple #[v, .int .i64 (parR s).2.1, .int .i64 (parR s).2.2]) ∧ Later w w' ∧ sliceRd tySeg (fun b => w.heap.size ≤ b) w' v (parR s).1 := by
  refine enter (vs := [.string s]) Tryz.func23 rfl Tryz.ntmps23 rfl ?_
  refine w_seq ?_
  refine rg_text ?_
  refine x_val rfl rfl rfl (v_assign rfl) ?_
  refine x_val rfl rfl rfl (v_assign rfl) ?_
  refine x_val rfl rfl rfl (v_assign rfl) ?_
  refine x_end ?_
  refine t_norm ?_
  refine w_seq ?_
  refine rg_text ?_
  refine x_val rfl rfl rfl (v_move rfl) ?_
  refine x_own (τ := Option Addr × List (Nat × Obj)) (fun q => .tuple #[.pointer q.1, .int .i64 (openR s).2.1, .int .i64 (openR s).2.2]) (fun q => openV q.1 q.2 s (openR s).1) (fun q => q.2) rfl rfl rfl Tryz.func53 (by kernel_rfl) rfl (fun w1 hw1 => (c_open s w1 hs).mono fun e w2 ⟨A0, own0, h1, h2, h3⟩ => ⟨(A0, own0), h1, h3.base (by simp), h2, hw1.join h3⟩) ?_
  rintro ⟨A0, own0⟩ hop
  dsimp only at hop
  have eR := parR_open s
  refine x_val rfl rfl rfl (v_move rfl) ?_
  refine x_val rfl rfl rfl (v_extract rfl rfl) ?_
  refine x_val rfl rfl rfl (v_extract rfl rfl) ?_
  refine x_val rfl rfl rfl (v_extract rfl rfl) ?_
  refine x_val rfl rfl rfl (v_assign rfl) ?_
  refine x_val rfl rfl rfl (v_assign rfl) ?_
  refine x_val rfl rfl rfl (v_assign rfl) ?_
  refine x_end ?_
  refine t_norm ?_
  refine w_seq ?_
  refine w_seq ?_
  refine rg_text ?_
  refine x_val rfl rfl rfl (v_move rfl) ?_
  refine x_bool rfl rfl rfl (v_neq rfl rfl) ?_
  intro b21 hb21
  refine x_end ?_
  refine t_norm ?_
  refine w_cond rfl (fun hc21 => ?_) (fun hc21 => ?_)
  · simp only [hb21, decide_eq_true_eq, decide_eq_false_iff_not, Bool.and_eq_true, Bool.or_eq_true, Bool.and_eq_false_iff, Bool.or_eq_false_iff, Bool.not_eq_true', Bool.not_eq_false', ne_eq, Decidable.not_not] at hc21
    have hon : (openR s).1 = none := by
      cases ho : (openR s).1 with
      | none => rfl
      | some q => obtain ⟨g, a⟩ := q; exact absurd (by rw [(openR_le s ho).2]) hc21
    rw [hon] at eR
    refine w_seq ?_
    refine rg_text ?_
    refine x_val rfl rfl rfl (v_move rfl) ?_
    refine x_val rfl rfl rfl (v_move rfl) ?_
    refine x_val rfl rfl rfl (v_assign rfl) ?_
    refine x_val rfl rfl rfl (v_assign rfl) ?_
    refine x_val rfl rfl rfl (v_assign rfl) ?_
    refine x_end ?_
    refine t_norm ?_
    refine w_ret ?_
    refine t_ret ?_
    refine ret3 rfl rfl rfl rfl (fun w' hm => ⟨_, by rw [eR]; rfl, hm.base (by simp), by rw [eR]; exact sliceRd_nil⟩)
  · simp only [hb21, decide_eq_true_eq, decide_eq_false_iff_not, Bool.and_eq_true, Bool.or_eq_true, Bool.and_eq_false_iff, Bool.or_eq_false_iff, Bool.not_eq_true', Bool.not_eq_false', ne_eq, Decidable.not_not] at hc21
    obtain ⟨g, a, ho⟩ : ∃ g a, (openR s).1 = some (g, a) := by
      cases ho : (openR s).1 with
      | none => have := openR_none s ho; omega
      | some q => exact ⟨q.1, q.2, rfl⟩
    rw [ho] at hop eR
    obtain ⟨p, rfl, rfl⟩ := hop
    have ha := (openR_le s ho).1
    dsimp only at eR
    refine w_skip ?_
    refine t_norm ?_
    refine w_seq ?_
    refine rg_text ?_
    refine x_val rfl rfl rfl (v_assign rfl) ?_
    refine x_end ?_
    refine t_norm ?_
    refine w_seq ?_
    refine w_seq ?_
    refine rg_text ?_
    refine x_val rfl rfl rfl (v_move rfl) ?_
    refine x_turnf (τ := Unit) (v := .tuple #[]) (fun _ => True) (fun _ => (p, Obj.cells (msgC g s (skipP s a)).toArray 95) :: []) rfl rfl Tryz.func54 (by kernel_rfl) rfl (fun w1 hw1 => (c_skip (l1 := []) g s a w1 hw1 hs ha).mono fun e w2 h => ⟨h.1, (), trivial, h.2⟩) ?_
    intro _ _
    refine x_end ?_
    refine t_norm ?_
    refine w_block ?_
    refine w_fix (rowO 49 none ++ (p, Obj.cells (msgC g s (skipP s a)).toArray 95) :: []) (List.Sublist.refl _) (fun w0 hm0 => ?_)
    have hska := skip_skip (s := s) _ a rfl
    refine w_loop (σ := Nat × List Seg × RowS × World) (fun x => x.1 ≤ s.size ∧ skipP s x.1 = x.1 ∧ parP s g x.1 x.2.1 = parP s g a [] ∧ x.2.1.length ≤ 10000 ∧ x.2.1.length ≤ x.1 ∧ RowT tySeg (newD w (rowO 49 x.2.2.1 ++ (p, Obj.cells (msgC g s (x.1)).toArray 95) :: [])) x.2.2.2 x.2.2.1 x.2.1) (fun x => [(0, Value.string s), (5, .pointer (some ⟨p, 0, none⟩)), (8, rowV x.2.2.1 x.2.1.length)]) (fun x => rowO 49 x.2.2.1 ++ (p, Obj.cells (msgC g s (x.1)).toArray 95) :: []) (fun x => (x.2.2.2, notOwn (rowO 49 x.2.2.1 ++ (p, Obj.cells (msgC g s (x.1)).toArray 95) :: [])) :: [(w, fun _ => True)]) (fun x => s.size - x.1) ((skipP s a, [], none, w0)) (⟨(skip_rng ha).2, hska, by dsimp only; rw [par_eq s g _ _ (skip_rng ha).2, par_eq s g a _ ha, hska], Nat.zero_le _, Nat.zero_le _, RowT.nil⟩) (l_start (by repeat (first | exact Sub.nil | refine Sub.cons rfl ?_)) (fun _ h => h)) ?_
    rintro ⟨x, xs, R, ws⟩ ⟨hx, hsk, hP, hn, hnx, hT⟩
    refine w_state ([(0, Value.string s), (5, .pointer (some ⟨p, 0, none⟩)), (8, rowV R xs.length)]) (rowO 49 R ++ (p, Obj.cells (msgC g s (x)).toArray 95) :: []) ((ws, notOwn (rowO 49 R ++ (p, Obj.cells (msgC g s (x)).toArray 95) :: [])) :: [(w, fun _ => True)]) ?_
    dsimp only at hx hsk hP hn hnx hT
    have hpe := par_eq s g x xs hx
    rw [hsk, hP] at hpe
    refine w_seq ?_
    refine w_seq ?_
    refine rg_text ?_
    refine x_val rfl rfl rfl (v_move rfl) ?_
    refine x_val rfl rfl rfl (v_nilCheck rfl) ?_
    refine x_val rfl rfl rfl (v_fieldAddr Tryz.underlying95 rfl sz3 (by decide) rfl rfl) ?_
    refine x_val rfl rfl rfl (v_load Tryz.underlying3 rfl rfl (at_ownL (vs := msgC g s (x)) (List.mem_append_right _ (.head _)) rfl)) ?_
    refine x_val rfl rfl rfl (v_move rfl) ?_
    refine x_val rfl rfl rfl (v_len_str Tryz.underlying9 rfl) ?_
    refine x_bool rfl rfl rfl (v_lss rfl rfl) ?_
    intro b32 hb32
    refine x_end ?_
    refine t_norm ?_
    refine w_cond rfl (fun hc32 => ?_) (fun hc32 => ?_)
    · simp only [hb32, decide_eq_true_eq, decide_eq_false_iff_not, Bool.and_eq_true, Bool.or_eq_true, Bool.and_eq_false_iff, Bool.or_eq_false_iff, Bool.not_eq_true', Bool.not_eq_false', ne_eq, Decidable.not_not] at hc32
      have hlt : x < s.size := by omega
      rw [if_pos hlt] at hpe
      refine w_skip ?_
      refine t_norm ?_
      refine w_seq ?_
      refine w_block ?_
      refine w_seq ?_
      refine w_seq ?_
      refine rg_text ?_
      refine x_val rfl rfl rfl (v_move rfl) ?_
      refine x_val rfl rfl rfl (v_len_slice Tryz.underlying29 rfl) ?_
      refine x_bool rfl rfl rfl (v_eql rfl rfl) ?_
      intro b37 hb37
      refine x_end ?_
      refine t_norm ?_
      refine w_cond rfl (fun hc37 => ?_) (fun hc37 => ?_)
      · simp only [hb37, decide_eq_true_eq, decide_eq_false_iff_not, Bool.and_eq_true, Bool.or_eq_true, Bool.and_eq_false_iff, Bool.or_eq_false_iff, Bool.not_eq_true', Bool.not_eq_false', ne_eq, Decidable.not_not] at hc37
        have h1 : xs.length = 10000 := by omega
        rw [if_pos h1] at hpe
        refine w_seq ?_
        refine rg_draw 7 [(true, 0), (true, 1), (true, 2), (true, 3), (true, 4), (true, 5), (true, 6)] (by kernel_rfl) (by kernel_rfl) ?_
        refine x_val rfl rfl rfl (v_move rfl) ?_
        refine x_val rfl rfl rfl (v_nilCheck rfl) ?_
        refine x_val rfl rfl rfl (v_fieldAddr Tryz.underlying95 rfl sz3 (by decide) rfl rfl) ?_
        refine x_val rfl rfl rfl (v_load Tryz.underlying3 rfl rfl (at_ownL (vs := msgC g s (x)) (List.mem_append_right _ (.head _)) rfl)) ?_
        refine x_val rfl rfl rfl (v_assign rfl) ?_
        refine x_val rfl rfl rfl (v_assign rfl) ?_
        refine x_val rfl rfl rfl (v_assign rfl) ?_
        refine x_end ?_
        refine t_norm ?_
        refine w_ret ?_
        refine t_ret ?_
        refine b_ret ?_
        refine t_ret ?_
        refine t_ret ?_
        refine b_ret ?_
        refine t_ret ?_
        have eP : parR s = ([], ((x : Nat) : Int), 2) := by rw [eR]; exact hpe
        refine ret3 rfl rfl rfl rfl (fun w' hm => ⟨_, by rw [eP] <;> rfl, hm.base (by simp), by rw [eP]; exact sliceRd_nil⟩)
      · simp only [hb37, decide_eq_true_eq, decide_eq_false_iff_not, Bool.and_eq_true, Bool.or_eq_true, Bool.and_eq_false_iff, Bool.or_eq_false_iff, Bool.not_eq_true', Bool.not_eq_false', ne_eq, Decidable.not_not] at hc37
        have h1 : ¬xs.length = 10000 := by omega
        rw [if_neg h1] at hpe
        refine w_skip ?_
        refine t_norm ?_
        refine w_seq ?_
        refine rg_text ?_
        refine x_val rfl rfl rfl (v_move rfl) ?_
        refine x_turnf (τ := Unit) (v := .tuple #[.string (tagR s g x).1.1, .int .i64 (tagR s g x).1.2.1, .int .i64 (tagR s g x).1.2.2]) (fun _ => True) (fun _ => rowO 49 R ++ (p, Obj.cells (msgC g s ((tagR s g x).2)).toArray 95) :: []) rfl rfl Tryz.func55 (by kernel_rfl) rfl (fun w1 hw1 => (c_tag g s x w1 hw1 hs hx).mono fun e w2 h => ⟨h.1, (), trivial, h.2⟩) ?_
        intro _ _
        refine x_val rfl rfl rfl (v_move rfl) ?_
        refine x_val rfl rfl rfl (v_extract rfl rfl) ?_
        refine x_val rfl rfl rfl (v_extract rfl rfl) ?_
        refine x_val rfl rfl rfl (v_extract rfl rfl) ?_
        refine x_val rfl rfl rfl (v_assign rfl) ?_
        refine x_val rfl rfl rfl (v_assign rfl) ?_
        refine x_val rfl rfl rfl (v_assign rfl) ?_
        refine x_end ?_
        refine t_norm ?_
        refine w_seq ?_
        refine w_seq ?_
        refine rg_text ?_
        refine x_val rfl rfl rfl (v_move rfl) ?_
        refine x_bool rfl rfl rfl (v_neq rfl rfl) ?_
        intro b49 hb49
        refine x_end ?_
        refine t_norm ?_
        refine w_cond rfl (fun hc49 => ?_) (fun hc49 => ?_)
        · simp only [hb49, decide_eq_true_eq, decide_eq_false_iff_not, Bool.and_eq_true, Bool.or_eq_true, Bool.and_eq_false_iff, Bool.or_eq_false_iff, Bool.not_eq_true', Bool.not_eq_false', ne_eq, Decidable.not_not] at hc49
          rw [if_pos hc49] at hpe
          refine w_seq ?_
          refine rg_text ?_
          refine x_val rfl rfl rfl (v_move rfl) ?_
          refine x_val rfl rfl rfl (v_move rfl) ?_
          refine x_val rfl rfl rfl (v_assign rfl) ?_
          refine x_val rfl rfl rfl (v_assign rfl) ?_
          refine x_val rfl rfl rfl (v_assign rfl) ?_
          refine x_end ?_
          refine t_norm ?_
          refine w_ret ?_
          refine t_ret ?_
          refine b_ret ?_
          refine t_ret ?_
          refine t_ret ?_
          refine b_ret ?_
          refine t_ret ?_
          have eP : parR s = ([], (tagR s g x).1.2.1, (tagR s g x).1.2.2) := by rw [eR]; exact hpe
          refine ret3 rfl rfl rfl rfl (fun w' hm => ⟨_, by rw [eP] <;> rfl, hm.base (by simp), by rw [eP]; exact sliceRd_nil⟩)
        · simp only [hb49, decide_eq_true_eq, decide_eq_false_iff_not, Bool.and_eq_true, Bool.or_eq_true, Bool.and_eq_false_iff, Bool.or_eq_false_iff, Bool.not_eq_true', Bool.not_eq_false', ne_eq, Decidable.not_not] at hc49
          have hno : ¬(tagR s g x).1.2.2 ≠ 0 := by simpa using hc49
          rw [if_neg hno] at hpe
          obtain ⟨e1, e2, e3, e4⟩ := tagR_ok (s := s) (g := g) (a := x) (by simpa using hno)
          have e5 := tagAt_lt e2 e3
          rw [e1] at hpe ⊢
          dsimp only at hpe ⊢
          refine w_skip ?_
          refine t_norm ?_
          refine w_seq ?_
          refine rg_text ?_
          refine x_val rfl rfl rfl (v_move rfl) ?_
          refine x_turn_n (τ := Nat) (fun z v wa wb => w.heap.size ≤ wa.heap.size ∧ (∀ k, wa.heap.size ≤ k → notOwn (rowO 49 R ++ (p, Obj.cells (msgC g s (z)).toArray 95) :: []) k) ∧ ∃ u, v = .tuple #[u, .bool (elP s g (byteAt s (x + 3)) (x + 3 + 1) []).isSome] ∧ ∀ l z', elP s g (byteAt s (x + 3)) (x + 3 + 1) [] = some (l, z') → z = z' ∧ sliceRd (tySlice tyStr) (fun b => wa.heap.size ≤ b) wb u l) (fun z => rowO 49 R ++ (p, Obj.cells (msgC g s (z)).toArray 95) :: []) rfl rfl Tryz.func56 (by kernel_rfl) rfl (fun w1 hw1 => (c_elements g s (x + 3) w1 hw1 hs e5 e4).mono fun e w2 ⟨v, h1, z, h2, h3⟩ => ⟨v, h1, z, ⟨(hw1.base (by simp)).size, fun k hk => notOwn_new hw1 k hk, h2⟩, h3⟩) ?_
          rintro v54 z wa wb hwa ⟨hwl, hno2, u54, rfl, hel⟩ hwb
          have hE : ∃ q, elP s g (byteAt s (x + 3)) (x + 3 + 1) [] = q := ⟨_, rfl⟩
          obtain ⟨q, hE⟩ := hE
          rw [hE] at hpe hel ⊢
          refine x_val rfl rfl rfl (v_move rfl) ?_
          refine x_val rfl rfl rfl (v_extract rfl rfl) ?_
          refine x_bool rfl rfl rfl (v_extract rfl rfl) ?_
          intro b56 hb56
          refine x_val rfl rfl rfl (v_assign rfl) ?_
          refine x_val rfl rfl rfl (v_assign rfl) ?_
          refine x_end ?_
          refine t_norm ?_
          refine w_seq ?_
          refine w_seq ?_
          refine rg_text ?_
          refine x_val rfl rfl rfl (v_move rfl) ?_
          refine x_bool rfl rfl rfl (v_not rfl) ?_
          intro b58 hb58
          refine x_end ?_
          refine t_norm ?_
          refine w_cond rfl (fun hc58 => ?_) (fun hc58 => ?_)
          · simp only [hb58, hb56, decide_eq_true_eq, decide_eq_false_iff_not, Bool.and_eq_true, Bool.or_eq_true, Bool.and_eq_false_iff, Bool.or_eq_false_iff, Bool.not_eq_true', Bool.not_eq_false', ne_eq, Decidable.not_not] at hc58
            have hq : q = none := by cases q with | none => rfl | some y => simp at hc58
            subst hq
            refine w_seq ?_
            refine rg_text ?_
            refine x_val rfl rfl rfl (v_move rfl) ?_
            refine x_val rfl rfl rfl (v_len_str Tryz.underlying9 rfl) ?_
            refine x_val rfl rfl rfl (v_assign rfl) ?_
            refine x_val rfl rfl rfl (v_assign rfl) ?_
            refine x_val rfl rfl rfl (v_assign rfl) ?_
            refine x_end ?_
            refine t_norm ?_
            refine w_ret ?_
            refine t_ret ?_
            refine b_ret ?_
            refine t_ret ?_
            refine t_ret ?_
            refine b_ret ?_
            refine t_ret ?_
            have eP : parR s = ([], ((s.size : Nat) : Int), 10) := by rw [eR]; exact hpe
            refine ret3 rfl rfl rfl rfl (fun w' hm => ⟨_, by rw [eP] <;> rfl, hm.base (by simp), by rw [eP]; exact sliceRd_nil⟩)
          · simp only [hb58, hb56, decide_eq_true_eq, decide_eq_false_iff_not, Bool.and_eq_true, Bool.or_eq_true, Bool.and_eq_false_iff, Bool.or_eq_false_iff, Bool.not_eq_true', Bool.not_eq_false', ne_eq, Decidable.not_not] at hc58
            obtain ⟨l, z2, rfl⟩ : ∃ l z2, q = some (l, z2) := by cases q with | none => simp at hc58 | some y => exact ⟨y.1, y.2, rfl⟩
            obtain ⟨rfl, hl⟩ := hel l z2 rfl
            obtain ⟨Au, cu, rfl, hu1, hu2, _⟩ := id hl
            have hadv := el_adv (by omega) hE
            obtain ⟨css, hcl, hrow, hrd⟩ := hT
            refine w_skip ?_
            refine t_norm ?_
            refine rg_text ?_
            refine x_val rfl rfl rfl (v_move rfl) ?_
            refine x_val rfl rfl rfl (v_move rfl) ?_
            refine x_val rfl rfl rfl (v_move rfl) ?_
            refine x_val rfl rfl rfl (v_buildL (places := [(0, 1), (1, 1)]) Tryz.underlying49 zr49 (by kernel_rfl) rfl rfl) ?_
            refine x_buildSliceL (cs := [Value.string (tagAt s x), .slice Au l.length cu]) rfl rfl rfl Tryz.underlying29 sz49 zr49 rfl rfl rfl ?_
            intro p65
            refine x_append (e := 49) [(p65, Obj.cells [Value.string (tagAt s x), .slice Au l.length cu].toArray 49)] (l2 := [(p, Obj.cells (msgC g s (z)).toArray 95)]) R (len := xs.length) (xs := css.flatten) rfl rfl rfl rfl rfl hrow Tryz.underlying29 ap49 rfl rfl (m := 1) (news := [Value.string (tagAt s x), .slice Au l.length cu]) (fun i hi => at_ownL (vs := [Value.string (tagAt s x), .slice Au l.length cu]) (.head _) (by rw [Nat.zero_add]; exact List.getElem?_eq_getElem hi)) rfl (by simp only [maxLen]; omega) (by omega) ?_
            intro R' hR'
            refine x_val rfl rfl rfl (v_assign rfl) ?_
            refine x_end ?_
            refine b_norm ?_
            refine t_norm ?_
            refine rg_text ?_
            refine x_val rfl rfl rfl (v_move rfl) ?_
            refine x_turnf (τ := Unit) (v := .tuple #[]) (fun _ => True) (fun _ => [(p65, Obj.cells [Value.string (tagAt s x), .slice Au l.length cu].toArray 49)] ++ (rowO 49 R' ++ (p, Obj.cells (msgC g s (skipP s z)).toArray 95) :: [])) rfl rfl Tryz.func54 (by kernel_rfl) rfl (fun w1 hw1 => (c_skip (l1 := (p65, Obj.cells [Value.string (tagAt s x), .slice Au l.length cu].toArray 49) :: rowO 49 R') g s z w1 (hw1.to rfl) hs hadv.2).mono fun e w2 h => ⟨h.1, (), trivial, h.2⟩) ?_
            intro _ _
            refine x_end ?_
            refine s_fix (rowO 49 R' ++ (p, Obj.cells (msgC g s (skipP s z)).toArray 95) :: []) (List.sublist_cons_self _ _) (fun w0 hm0 => ?_)
            have hse := skip_skip (s := s) _ z rfl
            have hsr := skip_rng (s := s) hadv.2
            have hok : okS (tagAt s x) := by unfold okS; omega
            have hT' := snocN (T := tySeg) (D := newD w (rowO 49 R' ++ (p, Obj.cells (msgC g s (skipP s z)).toArray 95) :: [])) (ws := w0) (x := ⟨tagAt s x, l⟩) rfl hcl (fun j h1 h2 => tySeg.keep (hrd j h1 h2) (Kept.frz hm0 (List.sublist_cons_self _ _) (by simp))) hR' (tySeg_mk rfl hok (hl.keep (Kept.made2 (hm0.less (List.sublist_cons_self _ _) (fun _ h => h)) (.head _) hno2 hwl)))
            exact l_norm (x := (x, xs, R, ws)) (μ := fun q : Nat × List Seg × RowS × World => s.size - q.1) (skipP s z, xs ++ [⟨tagAt s x, l⟩], R', w0) ⟨hsr.2, hse, by dsimp only; rw [hpe, par_eq s g _ _ hsr.2]; dsimp only; rw [par_eq s g z _ hadv.2, hse], by simp; omega, by simp; omega, hT'⟩ (by simp only; omega) (by dsimp only; rw [List.length_append, List.length_singleton]; repeat (first | exact Sub.nil | refine Sub.cons rfl ?_)) (fun w1 h => h.less (List.Sublist.refl _) (fun q hq => by simp at hq ⊢; rcases hq with h | h; (· exact .inl h); simp [h]))
    · simp only [hb32, decide_eq_true_eq, decide_eq_false_iff_not, Bool.and_eq_true, Bool.or_eq_true, Bool.and_eq_false_iff, Bool.or_eq_false_iff, Bool.not_eq_true', Bool.not_eq_false', ne_eq, Decidable.not_not] at hc32
      have hlt : ¬x < s.size := by omega
      rw [if_neg hlt] at hpe
      refine w_exit ?_
      refine t_exit ?_
      refine t_exit ?_
      refine b_hit ?_
      refine t_norm ?_
      refine w_seq ?_
      refine rg_text ?_
      refine x_val rfl rfl rfl (v_move rfl) ?_
      refine x_val rfl rfl rfl (v_assign rfl) ?_
      refine x_val rfl rfl rfl (v_assign rfl) ?_
      refine x_val rfl rfl rfl (v_assign rfl) ?_
      refine x_end ?_
      refine t_norm ?_
      refine w_ret ?_
      refine ret3 rfl rfl rfl rfl (fun w' hm => ?_)
      have eP : parR s = (xs, 0, 0) := by rw [eR]; exact hpe
      refine ⟨_, by rw [eP] <;> rfl, hm.base (by simp), ?_⟩
      rw [eP]
      exact (hT.keep (Kept.frz hm (List.Sublist.refl _) (.head _))).rd (e := 49) hm (fun p hp => List.mem_append_left _ hp) (fun _ h => h.1) (fun p hp => hm.newer (by simp) (List.mem_append_left _ hp)) rfl

end Go.Proofs.YtbamklefagghcaaGreatDoor

namespace Go.Proofs.YtbamklefagghcaaGreatDoor
open Go.RowKit Go.PK
set_option linter.unusedVariables false
set_option linter.unusedSimpArgs false

end Go.Proofs.YtbamklefagghcaaGreatDoor

namespace Go.Proofs.YtbamklefagghcaaGreatDoor
open Go.RowKit Go.PK
set_option linter.unusedVariables false
set_option linter.unusedSimpArgs false

end Go.Proofs.YtbamklefagghcaaGreatDoor

namespace Go.Proofs.YtbamklefagghcaaGreatDoor
open Go.RowKit Go.PK
set_option linter.unusedVariables false
set_option linter.unusedSimpArgs false

end Go.Proofs.YtbamklefagghcaaGreatDoor

namespace Go.Proofs.YtbamklefagghcaaGreatDoor
open Go.RowKit Go.PK
set_option linter.unusedVariables false
set_option linter.unusedSimpArgs false
theorem take_eq_succ {α : Type} {xs ys : List α} {k : Nat} (h1 : k < xs.length) (h2 : k < ys.length) (h : xs.take k = ys.take k) (he : xs[k] = ys[k]) : xs.take (k + 1) = ys.take (k + 1) := by
  rw [List.take_succ_eq_append_getElem h1, List.take_succ_eq_append_getElem h2, h, he]
theorem take_all {α : Type} {xs ys : List α} (h : xs.length = ys.length) (ht : xs.take xs.length = ys.take xs.length) : xs = ys := by
  rw [List.take_length] at ht; rw [ht, h, List.take_length]
theorem seg_ext {x y : Seg} (h1 : x.tag = y.tag) (h2 : x.els = y.els) : x = y := by cases x; cases y; cases h1; cases h2; rfl
theorem ne_at {α : Type} {xs ys : List α} {k : Nat} (h1 : k < xs.length) (h2 : k < ys.length) (he : xs[k] ≠ ys[k]) : xs ≠ ys := fun h => by subst h; exact he rfl
set_option maxRecDepth 100000 in
theorem c_Same {u v : Value} {xs ys : List Seg} {D1 D2 : Nat → Prop} (w : World) (h1s : sliceRd tySeg D1 w u xs) (h2s : sliceRd tySeg D2 w v ys) :
    Calls Tryz.prog 12 #[u, v] w fun e w' => e = .returned (.bool (decide (xs = ys))) ∧ Later w w' := by
  obtain ⟨A1, c1, rfl, hl1, hm1, _⟩ := id h1s
  obtain ⟨A2, c2, rfl, hl2, hm2, _⟩ := id h2s
  refine enter (vs := [.slice A1 xs.length c1, .slice A2 ys.length c2]) Tryz.func12 rfl Tryz.ntmps12 rfl ?_
  refine w_seq ?_
  refine rg_text ?_
  refine x_val rfl rfl rfl (v_assign rfl) ?_
  refine x_end ?_
  refine t_norm ?_
  refine w_seq ?_
  refine w_seq ?_
  refine rg_text ?_
  refine x_val rfl rfl rfl (v_move rfl) ?_
  refine x_val rfl rfl rfl (v_len_slice Tryz.underlying29 rfl) ?_
  refine x_val rfl rfl rfl (v_move rfl) ?_
  refine x_val rfl rfl rfl (v_len_slice Tryz.underlying29 rfl) ?_
  refine x_bool rfl rfl rfl (v_neq rfl rfl) ?_
  intro b14 hb14
  refine x_end ?_
  refine t_norm ?_
  refine w_cond rfl (fun hc14 => ?_) (fun hc14 => ?_)
  · simp only [hb14, decide_eq_true_eq, decide_eq_false_iff_not, Bool.and_eq_true, Bool.or_eq_true, Bool.and_eq_false_iff, Bool.or_eq_false_iff, Bool.not_eq_true', Bool.not_eq_false', ne_eq, Decidable.not_not] at hc14
    have hne : xs ≠ ys := fun h => by rw [h] at hc14; exact hc14 rfl
    refine w_seq ?_
    refine rg_text ?_
    refine x_val rfl rfl rfl (v_assign rfl) ?_
    refine x_end ?_
    refine t_norm ?_
    refine w_ret ?_
    refine t_ret ?_
    refine ret1 rfl rfl (fun w' hm => ⟨?_, hm.base (by simp)⟩)
    rw [decide_eq_false (hne)]
  · simp only [hb14, decide_eq_true_eq, decide_eq_false_iff_not, Bool.and_eq_true, Bool.or_eq_true, Bool.and_eq_false_iff, Bool.or_eq_false_iff, Bool.not_eq_true', Bool.not_eq_false', ne_eq, Decidable.not_not] at hc14
    have hlen : xs.length = ys.length := by omega
    refine w_skip ?_
    refine t_norm ?_
    refine w_seq ?_
    refine w_seq ?_
    refine rg_text ?_
    refine x_val rfl rfl rfl (v_assign rfl) ?_
    refine x_end ?_
    refine t_norm ?_
    refine w_block ?_
    refine w_loop (σ := Nat) (fun x => x ≤ xs.length ∧ xs.take x = ys.take x) (fun x => [(0, Value.slice A1 xs.length c1), (1, Value.slice A2 ys.length c2), (5, Value.int .i64 (x : Nat))]) (fun x => []) (fun x => [(w, fun _ => True)]) (fun x => xs.length - x) (0) (⟨Nat.zero_le _, rfl⟩) (l_start (by repeat (first | exact Sub.nil | refine Sub.cons rfl ?_)) (fun _ h => h)) ?_
    rintro k ⟨hk, ht⟩
    refine w_state ([(0, Value.slice A1 xs.length c1), (1, Value.slice A2 ys.length c2), (5, Value.int .i64 (k : Nat))]) ([]) ([(w, fun _ => True)]) ?_
    refine w_seq ?_
    refine w_seq ?_
    refine rg_text ?_
    refine x_val rfl rfl rfl (v_move rfl) ?_
    refine x_val rfl rfl rfl (v_move rfl) ?_
    refine x_val rfl rfl rfl (v_len_slice Tryz.underlying29 rfl) ?_
    refine x_bool rfl rfl rfl (v_lss rfl rfl) ?_
    intro b18 hb18
    refine x_end ?_
    refine t_norm ?_
    refine w_cond rfl (fun hc18 => ?_) (fun hc18 => ?_)
    · simp only [hb18, decide_eq_true_eq, decide_eq_false_iff_not, Bool.and_eq_true, Bool.or_eq_true, Bool.and_eq_false_iff, Bool.or_eq_false_iff, Bool.not_eq_true', Bool.not_eq_false', ne_eq, Decidable.not_not] at hc18
      have h1 : k < xs.length := by omega
      have h2 : k < ys.length := by omega
      obtain ⟨b1, o1, u1, hA1, _, ht1, hv1, hk1, hr1⟩ := seg_at h1s h1
      obtain ⟨b2, o2, u2, hA2, _, ht2, hv2, hk2, hr2⟩ := seg_at h2s h2
      subst hA1 hA2
      obtain ⟨A3, c3, rfl, hl3, hm3, _⟩ := id hr1
      obtain ⟨A4, c4, rfl, hl4, hm4, _⟩ := id hr2
      refine w_skip ?_
      refine t_norm ?_
      refine w_seq ?_
      refine w_block ?_
      refine w_seq ?_
      refine w_seq ?_
      refine rg_draw 26 [(true, 0), (true, 1), (true, 2), (true, 3), (true, 4), (true, 5), (true, 6), (true, 7), (true, 8), (true, 9), (true, 10), (true, 11), (true, 12), (true, 13), (true, 14), (true, 15), (true, 16), (true, 17), (true, 18), (true, 19), (true, 20), (true, 21), (true, 22), (true, 23), (true, 24), (true, 25)] (by kernel_rfl) (by kernel_rfl) ?_
      refine x_val rfl rfl rfl (v_move rfl) ?_
      refine x_val rfl rfl rfl (v_move rfl) ?_
      refine x_val rfl rfl rfl (v_indexAddr Tryz.underlying29 sz49 rfl rfl (by first | omega | (dsimp only; omega)) rfl) ?_
      refine x_val rfl rfl rfl (v_fieldAddr Tryz.underlying49 rfl sz9 (by decide) rfl rfl) ?_
      refine x_val rfl rfl rfl (v_load Tryz.underlying9 rfl rfl (at_ro (.head _) trivial ht1)) ?_
      refine x_val rfl rfl rfl (v_move rfl) ?_
      refine x_val rfl rfl rfl (v_move rfl) ?_
      refine x_val rfl rfl rfl (v_indexAddr Tryz.underlying29 sz49 rfl rfl (by first | omega | (dsimp only; omega)) rfl) ?_
      refine x_val rfl rfl rfl (v_fieldAddr Tryz.underlying49 rfl sz9 (by decide) rfl rfl) ?_
      refine x_val rfl rfl rfl (v_load Tryz.underlying9 rfl rfl (at_ro (.head _) trivial ht2)) ?_
      refine x_bool rfl rfl rfl (v_sneq rfl rfl) ?_
      intro b31 hb31
      refine x_val rfl rfl rfl (v_move rfl) ?_
      refine x_if [] rfl rfl rfl rfl rfl (fun hg => by obtain ⟨hg0, _⟩ := hg; subst hg0; (try simp only [List.cons_append, List.nil_append, gvl_nil, gvl_t, gvl_f]); exact v_move rfl) ?_
      refine x_if [] rfl rfl rfl rfl rfl (fun hg => by obtain ⟨hg0, _⟩ := hg; subst hg0; (try simp only [List.cons_append, List.nil_append, gvl_nil, gvl_t, gvl_f]); exact v_move rfl) ?_
      refine x_if [] rfl rfl rfl rfl rfl (fun hg => by obtain ⟨hg0, _⟩ := hg; subst hg0; (try simp only [List.cons_append, List.nil_append, gvl_nil, gvl_t, gvl_f]); exact v_indexAddr Tryz.underlying29 sz49 rfl rfl (by first | omega | (dsimp only; omega)) rfl) ?_
      refine x_if [] rfl rfl rfl rfl rfl (fun hg => by obtain ⟨hg0, _⟩ := hg; subst hg0; (try simp only [List.cons_append, List.nil_append, gvl_nil, gvl_t, gvl_f]); exact v_fieldAddr Tryz.underlying49 rfl sz47 (by decide) rfl rfl) ?_
      refine x_if [] rfl rfl rfl rfl rfl (fun hg => by obtain ⟨hg0, _⟩ := hg; subst hg0; (try simp only [List.cons_append, List.nil_append, gvl_nil, gvl_t, gvl_f]); exact v_load Tryz.underlying47 rfl rfl (at_ro (.head _) trivial hv1)) ?_
      refine x_if [] rfl rfl rfl rfl rfl (fun hg => by obtain ⟨hg0, _⟩ := hg; subst hg0; (try simp only [List.cons_append, List.nil_append, gvl_nil, gvl_t, gvl_f]); exact v_len_slice Tryz.underlying47 rfl) ?_
      refine x_if [] rfl rfl rfl rfl rfl (fun hg => by obtain ⟨hg0, _⟩ := hg; subst hg0; (try simp only [List.cons_append, List.nil_append, gvl_nil, gvl_t, gvl_f]); exact v_move rfl) ?_
      refine x_if [] rfl rfl rfl rfl rfl (fun hg => by obtain ⟨hg0, _⟩ := hg; subst hg0; (try simp only [List.cons_append, List.nil_append, gvl_nil, gvl_t, gvl_f]); exact v_move rfl) ?_
      refine x_if [] rfl rfl rfl rfl rfl (fun hg => by obtain ⟨hg0, _⟩ := hg; subst hg0; (try simp only [List.cons_append, List.nil_append, gvl_nil, gvl_t, gvl_f]); exact v_indexAddr Tryz.underlying29 sz49 rfl rfl (by first | omega | (dsimp only; omega)) rfl) ?_
      refine x_if [] rfl rfl rfl rfl rfl (fun hg => by obtain ⟨hg0, _⟩ := hg; subst hg0; (try simp only [List.cons_append, List.nil_append, gvl_nil, gvl_t, gvl_f]); exact v_fieldAddr Tryz.underlying49 rfl sz47 (by decide) rfl rfl) ?_
      refine x_if [] rfl rfl rfl rfl rfl (fun hg => by obtain ⟨hg0, _⟩ := hg; subst hg0; (try simp only [List.cons_append, List.nil_append, gvl_nil, gvl_t, gvl_f]); exact v_load Tryz.underlying47 rfl rfl (at_ro (.head _) trivial hv2)) ?_
      refine x_if [] rfl rfl rfl rfl rfl (fun hg => by obtain ⟨hg0, _⟩ := hg; subst hg0; (try simp only [List.cons_append, List.nil_append, gvl_nil, gvl_t, gvl_f]); exact v_len_slice Tryz.underlying47 rfl) ?_
      refine x_ifb [] rfl rfl rfl rfl rfl (fun hg => by obtain ⟨hg0, _⟩ := hg; subst hg0; (try simp only [List.cons_append, List.nil_append, gvl_nil, gvl_t, gvl_f]); exact v_neq rfl rfl) ?_
      intro b45 hb45
      refine x_bool rfl rfl rfl (v_or rfl rfl) ?_
      intro b46 hb46
      refine x_end ?_
      refine t_norm ?_
      refine w_cond rfl (fun hc46 => ?_) (fun hc46 => ?_)
      · simp only [hb46, hb45, hb31, decide_eq_true_eq, decide_eq_false_iff_not, Bool.and_eq_true, Bool.or_eq_true, Bool.and_eq_false_iff, Bool.or_eq_false_iff, Bool.not_eq_true', Bool.not_eq_false', ne_eq, Decidable.not_not] at hc46
        have hne : xs ≠ ys := ne_at h1 h2 (fun h => by rcases hc46 with h3 | h3; (· exact h3 (by rw [h])); exact h3 (by rw [h]))
        refine w_seq ?_
        refine rg_text ?_
        refine x_val rfl rfl rfl (v_assign rfl) ?_
        refine x_end ?_
        refine t_norm ?_
        refine w_ret ?_
        refine t_ret ?_
        refine b_ret ?_
        refine t_ret ?_
        refine t_ret ?_
        refine b_ret ?_
        refine t_ret ?_
        refine ret1 rfl rfl (fun w' hm => ⟨?_, hm.base (by simp)⟩)
        rw [decide_eq_false (hne)]
      · simp only [hb46, hb45, hb31, decide_eq_true_eq, decide_eq_false_iff_not, Bool.and_eq_true, Bool.or_eq_true, Bool.and_eq_false_iff, Bool.or_eq_false_iff, Bool.not_eq_true', Bool.not_eq_false', ne_eq, Decidable.not_not] at hc46
        obtain ⟨htag, hlen2⟩ := hc46
        have hlen2 : (xs[k]).els.length = (ys[k]).els.length := by omega
        refine w_skip ?_
        refine t_norm ?_
        refine w_seq ?_
        refine rg_text ?_
        refine x_val rfl rfl rfl (v_assign rfl) ?_
        refine x_end ?_
        refine t_norm ?_
        refine w_block ?_
        refine w_loop (σ := Nat) (fun x => x ≤ (xs[k]).els.length ∧ (xs[k]).els.take x = (ys[k]).els.take x) (fun x => [(0, Value.slice (some ⟨b1, o1, none⟩) xs.length c1), (1, Value.slice (some ⟨b2, o2, none⟩) ys.length c2), (5, Value.int .i64 (k : Nat)), (6, Value.int .i64 (x : Nat))]) (fun x => []) (fun x => [(w, fun _ => True)]) (fun x => (xs[k]).els.length - x) (0) (⟨Nat.zero_le _, rfl⟩) (l_start (by repeat (first | exact Sub.nil | refine Sub.cons rfl ?_)) (fun _ h => h)) ?_
        rintro j ⟨hj, htj⟩
        refine w_state ([(0, Value.slice (some ⟨b1, o1, none⟩) xs.length c1), (1, Value.slice (some ⟨b2, o2, none⟩) ys.length c2), (5, Value.int .i64 (k : Nat)), (6, Value.int .i64 (j : Nat))]) ([]) ([(w, fun _ => True)]) ?_
        refine w_seq ?_
        refine w_seq ?_
        refine rg_text ?_
        refine x_val rfl rfl rfl (v_move rfl) ?_
        refine x_val rfl rfl rfl (v_move rfl) ?_
        refine x_val rfl rfl rfl (v_move rfl) ?_
        refine x_val rfl rfl rfl (v_indexAddr Tryz.underlying29 sz49 rfl rfl (by first | omega | (dsimp only; omega)) rfl) ?_
        refine x_val rfl rfl rfl (v_fieldAddr Tryz.underlying49 rfl sz47 (by decide) rfl rfl) ?_
        refine x_val rfl rfl rfl (v_load Tryz.underlying47 rfl rfl (at_ro (.head _) trivial hv1)) ?_
        refine x_val rfl rfl rfl (v_len_slice Tryz.underlying47 rfl) ?_
        refine x_bool rfl rfl rfl (v_lss rfl rfl) ?_
        intro b54 hb54
        refine x_end ?_
        refine t_norm ?_
        refine w_cond rfl (fun hc54 => ?_) (fun hc54 => ?_)
        · simp only [hb54, decide_eq_true_eq, decide_eq_false_iff_not, Bool.and_eq_true, Bool.or_eq_true, Bool.and_eq_false_iff, Bool.or_eq_false_iff, Bool.not_eq_true', Bool.not_eq_false', ne_eq, Decidable.not_not] at hc54
          have h3 : j < (xs[k]).els.length := by omega
          have h4 : j < (ys[k]).els.length := by omega
          obtain ⟨b3, o3, u3, hA3, _, hc3, hr3⟩ := sl_at hr1 h3
          obtain ⟨b4, o4, u4, hA4, _, hc4, hr4⟩ := sl_at hr2 h4
          subst hA3 hA4
          obtain ⟨A5, c5, rfl, hl5, hm5, _⟩ := id hr3
          obtain ⟨A6, c6, rfl, hl6, hm6, _⟩ := id hr4
          obtain ⟨f1, hf1⟩ : ∃ f, (xs[k]).els[j] = f := ⟨_, rfl⟩
          obtain ⟨f2, hf2⟩ : ∃ f, (ys[k]).els[j] = f := ⟨_, rfl⟩
          rw [hf1] at hr3 hc3 hl5 hm5
          rw [hf2] at hr4 hc4 hl6 hm6
          refine w_skip ?_
          refine t_norm ?_
          refine w_seq ?_
          refine w_block ?_
          refine w_seq ?_
          refine rg_text ?_
          refine x_val rfl rfl rfl (v_move rfl) ?_
          refine x_val rfl rfl rfl (v_move rfl) ?_
          refine x_val rfl rfl rfl (v_indexAddr Tryz.underlying29 sz49 rfl rfl (by first | omega | (dsimp only; omega)) rfl) ?_
          refine x_val rfl rfl rfl (v_fieldAddr Tryz.underlying49 rfl sz47 (by decide) rfl rfl) ?_
          refine x_val rfl rfl rfl (v_load Tryz.underlying47 rfl rfl (at_ro (.head _) trivial hv1)) ?_
          refine x_val rfl rfl rfl (v_move rfl) ?_
          refine x_val rfl rfl rfl (v_indexAddr Tryz.underlying47 sz54 rfl rfl (by first | omega | (dsimp only; omega)) rfl) ?_
          refine x_val rfl rfl rfl (v_load Tryz.underlying54 rfl rfl (at_ro (.head _) trivial (by rw [Nat.mul_one]; exact hc3))) ?_
          refine x_val rfl rfl rfl (v_assign rfl) ?_
          refine x_end ?_
          refine t_norm ?_
          refine w_seq ?_
          refine rg_text ?_
          refine x_val rfl rfl rfl (v_move rfl) ?_
          refine x_val rfl rfl rfl (v_move rfl) ?_
          refine x_val rfl rfl rfl (v_indexAddr Tryz.underlying29 sz49 rfl rfl (by first | omega | (dsimp only; omega)) rfl) ?_
          refine x_val rfl rfl rfl (v_fieldAddr Tryz.underlying49 rfl sz47 (by decide) rfl rfl) ?_
          refine x_val rfl rfl rfl (v_load Tryz.underlying47 rfl rfl (by first | exact at_ownL (.head _) rfl | exact at_ownL (.tail _ (.head _)) rfl | exact at_ownL (.tail _ (.tail _ (.head _))) rfl | (apply at_ownL; ((repeat (first | exact List.Mem.head _ | apply List.Mem.tail | apply List.mem_append_right))); rfl) | (refine at_ro (by first | exact .head _ | exact .tail _ (.head _) | exact .tail _ (.tail _ (.head _)) | simp) ?_ (by assumption); trivial))) ?_
          refine x_val rfl rfl rfl (v_move rfl) ?_
          refine x_val rfl rfl rfl (v_indexAddr Tryz.underlying47 sz54 rfl rfl (by first | omega | (dsimp only; omega)) rfl) ?_
          refine x_val rfl rfl rfl (v_load Tryz.underlying54 rfl rfl (at_ro (.head _) trivial (by rw [Nat.mul_one]; exact hc4))) ?_
          refine x_val rfl rfl rfl (v_assign rfl) ?_
          refine x_end ?_
          refine t_norm ?_
          refine w_seq ?_
          refine w_seq ?_
          refine rg_text ?_
          refine x_val rfl rfl rfl (v_move rfl) ?_
          refine x_val rfl rfl rfl (v_len_slice Tryz.underlying54 rfl) ?_
          refine x_val rfl rfl rfl (v_move rfl) ?_
          refine x_val rfl rfl rfl (v_len_slice Tryz.underlying54 rfl) ?_
          refine x_bool rfl rfl rfl (v_neq rfl rfl) ?_
          intro b77 hb77
          refine x_end ?_
          refine t_norm ?_
          refine w_cond rfl (fun hc77 => ?_) (fun hc77 => ?_)
          · simp only [hb77, decide_eq_true_eq, decide_eq_false_iff_not, Bool.and_eq_true, Bool.or_eq_true, Bool.and_eq_false_iff, Bool.or_eq_false_iff, Bool.not_eq_true', Bool.not_eq_false', ne_eq, Decidable.not_not] at hc77
            have hne : xs ≠ ys := ne_at h1 h2 (fun h => absurd (show (xs[k]).els = (ys[k]).els by rw [h]) (ne_at h3 h4 (fun h5 => by rw [hf1, hf2] at h5; rw [h5] at hc77; exact hc77 rfl)))
            refine w_seq ?_
            refine rg_text ?_
            refine x_val rfl rfl rfl (v_assign rfl) ?_
            refine x_end ?_
            refine t_norm ?_
            refine w_ret ?_
            refine t_ret ?_
            refine b_ret ?_
            refine t_ret ?_
            refine t_ret ?_
            refine b_ret ?_
            refine b_ret ?_
            refine t_ret ?_
            refine t_ret ?_
            refine b_ret ?_
            refine t_ret ?_
            refine ret1 rfl rfl (fun w' hm => ⟨?_, hm.base (by simp)⟩)
            rw [decide_eq_false (hne)]
          · simp only [hb77, decide_eq_true_eq, decide_eq_false_iff_not, Bool.and_eq_true, Bool.or_eq_true, Bool.and_eq_false_iff, Bool.or_eq_false_iff, Bool.not_eq_true', Bool.not_eq_false', ne_eq, Decidable.not_not] at hc77
            have hlen3 : f1.length = f2.length := by omega
            refine w_skip ?_
            refine t_norm ?_
            refine w_seq ?_
            refine rg_text ?_
            refine x_val rfl rfl rfl (v_assign rfl) ?_
            refine x_end ?_
            refine t_norm ?_
            refine w_block ?_
            refine w_loop (σ := Nat) (fun x => x ≤ f1.length ∧ f1.take x = f2.take x) (fun x => [(0, Value.slice (some ⟨b1, o1, none⟩) xs.length c1), (1, Value.slice (some ⟨b2, o2, none⟩) ys.length c2), (5, Value.int .i64 (k : Nat)), (6, Value.int .i64 (j : Nat)), (7, Value.slice A5 f1.length c5), (8, Value.slice A6 f2.length c6), (9, Value.int .i64 (x : Nat))]) (fun x => []) (fun x => [(w, fun _ => True)]) (fun x => f1.length - x) (0) (⟨Nat.zero_le _, rfl⟩) (l_start (by repeat (first | exact Sub.nil | refine Sub.cons rfl ?_)) (fun _ h => h)) ?_
            rintro i ⟨hi, hti⟩
            refine w_state ([(0, Value.slice (some ⟨b1, o1, none⟩) xs.length c1), (1, Value.slice (some ⟨b2, o2, none⟩) ys.length c2), (5, Value.int .i64 (k : Nat)), (6, Value.int .i64 (j : Nat)), (7, Value.slice A5 f1.length c5), (8, Value.slice A6 f2.length c6), (9, Value.int .i64 (i : Nat))]) ([]) ([(w, fun _ => True)]) ?_
            refine w_seq ?_
            refine w_seq ?_
            refine rg_text ?_
            refine x_val rfl rfl rfl (v_move rfl) ?_
            refine x_val rfl rfl rfl (v_move rfl) ?_
            refine x_val rfl rfl rfl (v_len_slice Tryz.underlying54 rfl) ?_
            refine x_bool rfl rfl rfl (v_lss rfl rfl) ?_
            intro b81 hb81
            refine x_end ?_
            refine t_norm ?_
            refine w_cond rfl (fun hc81 => ?_) (fun hc81 => ?_)
            · simp only [hb81, decide_eq_true_eq, decide_eq_false_iff_not, Bool.and_eq_true, Bool.or_eq_true, Bool.and_eq_false_iff, Bool.or_eq_false_iff, Bool.not_eq_true', Bool.not_eq_false', ne_eq, Decidable.not_not] at hc81
              have h5 : i < f1.length := by omega
              have h6 : i < f2.length := by omega
              obtain ⟨b5, o5, hA5, _, hc5, _⟩ := s_at hr3 h5
              obtain ⟨b6, o6, hA6, _, hc6, _⟩ := s_at hr4 h6
              subst hA5 hA6
              refine w_skip ?_
              refine t_norm ?_
              refine w_seq ?_
              refine w_block ?_
              refine w_seq ?_
              refine rg_draw 9 [(true, 0), (true, 1), (true, 2), (true, 3), (true, 4), (true, 5), (true, 6), (true, 7), (true, 8)] (by kernel_rfl) (by kernel_rfl) ?_
              refine x_val rfl rfl rfl (v_move rfl) ?_
              refine x_val rfl rfl rfl (v_move rfl) ?_
              refine x_val rfl rfl rfl (v_indexAddr Tryz.underlying54 sz9 rfl rfl (by first | omega | (dsimp only; omega)) rfl) ?_
              refine x_val rfl rfl rfl (v_load Tryz.underlying9 rfl rfl (at_ro (.head _) trivial (by rw [Nat.mul_one]; exact hc5))) ?_
              refine x_val rfl rfl rfl (v_move rfl) ?_
              refine x_val rfl rfl rfl (v_move rfl) ?_
              refine x_val rfl rfl rfl (v_indexAddr Tryz.underlying54 sz9 rfl rfl (by first | omega | (dsimp only; omega)) rfl) ?_
              refine x_val rfl rfl rfl (v_load Tryz.underlying9 rfl rfl (at_ro (.head _) trivial (by rw [Nat.mul_one]; exact hc6))) ?_
              refine x_bool rfl rfl rfl (v_sneq rfl rfl) ?_
              intro b92 hb92
              refine x_end ?_
              refine t_norm ?_
              refine w_cond rfl (fun hc92 => ?_) (fun hc92 => ?_)
              · simp only [hb92, decide_eq_true_eq, decide_eq_false_iff_not, Bool.and_eq_true, Bool.or_eq_true, Bool.and_eq_false_iff, Bool.or_eq_false_iff, Bool.not_eq_true', Bool.not_eq_false', ne_eq, Decidable.not_not] at hc92
                have hne : xs ≠ ys := ne_at h1 h2 (fun h => absurd (show (xs[k]).els = (ys[k]).els by rw [h]) (ne_at h3 h4 (fun h7 => by rw [hf1, hf2] at h7; exact (ne_at h5 h6 hc92) h7)))
                refine w_seq ?_
                refine rg_text ?_
                refine x_val rfl rfl rfl (v_assign rfl) ?_
                refine x_end ?_
                refine t_norm ?_
                refine w_ret ?_
                refine b_ret ?_
                refine t_ret ?_
                refine t_ret ?_
                refine b_ret ?_
                refine b_ret ?_
                refine t_ret ?_
                refine t_ret ?_
                refine b_ret ?_
                refine b_ret ?_
                refine t_ret ?_
                refine t_ret ?_
                refine b_ret ?_
                refine t_ret ?_
                refine ret1 rfl rfl (fun w' hm => ⟨?_, hm.base (by simp)⟩)
                rw [decide_eq_false (hne)]
              · simp only [hb92, decide_eq_true_eq, decide_eq_false_iff_not, Bool.and_eq_true, Bool.or_eq_true, Bool.and_eq_false_iff, Bool.or_eq_false_iff, Bool.not_eq_true', Bool.not_eq_false', ne_eq, Decidable.not_not] at hc92
                refine w_skip ?_
                refine b_norm ?_
                refine t_norm ?_
                refine rg_text ?_
                refine x_val rfl rfl rfl (v_move rfl) ?_
                refine x_val rfl rfl rfl (v_addi rfl rfl rfl (by first | omega | (dsimp only; omega))) ?_
                refine x_val rfl rfl rfl (v_assign rfl) ?_
                refine x_end ?_
                exact l_norm (i + 1) ⟨by omega, take_eq_succ h5 h6 hti hc92⟩ (by omega) (by repeat (first | exact Sub.nil | refine Sub.cons rfl ?_)) (fun _ h => h)
            · simp only [hb81, decide_eq_true_eq, decide_eq_false_iff_not, Bool.and_eq_true, Bool.or_eq_true, Bool.and_eq_false_iff, Bool.or_eq_false_iff, Bool.not_eq_true', Bool.not_eq_false', ne_eq, Decidable.not_not] at hc81
              obtain rfl : i = f1.length := by omega
              have hff : f1 = f2 := take_all hlen3 hti
              refine w_exit ?_
              refine t_exit ?_
              refine t_exit ?_
              refine b_hit ?_
              refine b_norm ?_
              refine t_norm ?_
              refine rg_text ?_
              refine x_val rfl rfl rfl (v_move rfl) ?_
              refine x_val rfl rfl rfl (v_addi rfl rfl rfl (by first | omega | (dsimp only; omega))) ?_
              refine x_val rfl rfl rfl (v_assign rfl) ?_
              refine x_end ?_
              exact l_norm (j + 1) ⟨by omega, take_eq_succ h3 h4 htj (by rw [hf1, hf2, hff])⟩ (by omega) (by repeat (first | exact Sub.nil | refine Sub.cons rfl ?_)) (fun _ h => h)
        · simp only [hb54, decide_eq_true_eq, decide_eq_false_iff_not, Bool.and_eq_true, Bool.or_eq_true, Bool.and_eq_false_iff, Bool.or_eq_false_iff, Bool.not_eq_true', Bool.not_eq_false', ne_eq, Decidable.not_not] at hc54
          obtain rfl : j = (xs[k]).els.length := by omega
          have hee : (xs[k]).els = (ys[k]).els := take_all hlen2 htj
          refine w_exit ?_
          refine t_exit ?_
          refine t_exit ?_
          refine b_hit ?_
          refine b_norm ?_
          refine t_norm ?_
          refine rg_text ?_
          refine x_val rfl rfl rfl (v_move rfl) ?_
          refine x_val rfl rfl rfl (v_addi rfl rfl rfl (by first | omega | (dsimp only; omega))) ?_
          refine x_val rfl rfl rfl (v_assign rfl) ?_
          refine x_end ?_
          exact l_norm (k + 1) ⟨by omega, take_eq_succ h1 h2 ht (seg_ext htag hee)⟩ (by omega) (by repeat (first | exact Sub.nil | refine Sub.cons rfl ?_)) (fun _ h => h)
    · simp only [hb18, decide_eq_false_iff_not] at hc18
      obtain rfl : k = xs.length := by omega
      refine w_exit ?_
      refine t_exit ?_
      refine t_exit ?_
      refine b_hit ?_
      refine t_norm ?_
      refine w_seq ?_
      refine rg_text ?_
      refine x_val rfl rfl rfl (v_assign rfl) ?_
      refine x_end ?_
      refine t_norm ?_
      refine w_ret ?_
      refine ret1 rfl rfl (fun w' hm => ⟨?_, hm.base (by simp)⟩)
      rw [decide_eq_true (take_all hlen ht)]

end Go.Proofs.YtbamklefagghcaaGreatDoor

namespace Go.Proofs.YtbamklefagghcaaGreatDoor
open Go.RowKit Go.PK
set_option linter.unusedVariables false
set_option linter.unusedSimpArgs false
set_option maxRecDepth 100000 in
theorem c_WS {l2 : List (Nat × Obj)} {ro : List Snap} {p : Nat} {pp : Value} {r : RowS} {bs : List UInt8} (w : World) (hm : Mem w ((bld2 81 5 p pp r (bs.length)) ++ l2) ro) (hp : ppOK p pp) (t : ByteArray) (hr : rowOK 1 r bs.length (byC bs)) (hl : bs.length ≤ 4000000000000) (ht : t.size ≤ 4000000000000) :
    Calls Tryz.prog 48 #[.pointer (some ⟨p, 0, none⟩), .string t] w fun e w' => e = .returned (.tuple #[.int .i64 (t.size : Nat), .nilIface]) ∧ ∃ r', rowOK 1 r' (bs ++ bl t).length (byC (bs ++ bl t)) ∧ Mem w' ((bld2 81 5 p (.pointer (some ⟨p, 0, none⟩)) r' ((bs ++ bl t).length)) ++ l2) ro := by
  refine enter_in hm (vs := [.pointer (some ⟨p, 0, none⟩), .string t]) Tryz.func48 rfl Tryz.ntmps48 rfl ?_
  refine w_seq ?_
  refine rg_text ?_
  refine x_val rfl rfl rfl (v_assign rfl) ?_
  refine x_val rfl rfl rfl (v_assign rfl) ?_
  refine x_end ?_
  refine t_norm ?_
  refine w_seq ?_
  refine rg_text ?_
  refine x_val rfl rfl rfl (v_move rfl) ?_
  refine x_turnf (τ := Unit) (v := .tuple #[]) (fun _ => True) (fun _ => (bld2 81 5 p (.pointer (some ⟨p, 0, none⟩)) r (bs.length)) ++ l2) rfl rfl Tryz.func75 (by kernel_rfl) rfl (fun w1 hw1 => by have hc := c_cc w1 hw1 hp; exact hc.mono fun e w2 h => ⟨h.1, (), trivial, h.2⟩) ?_
  intro _ _
  refine x_end ?_
  refine t_norm ?_
  refine w_seq ?_
  refine rg_text ?_
  refine x_val rfl rfl rfl (v_move rfl) ?_
  refine x_val rfl rfl rfl (v_move rfl) ?_
  refine x_val rfl rfl rfl (v_nilCheck rfl) ?_
  refine x_val rfl rfl rfl (v_fieldAddr (off' := 1) Tryz.underlying81 rfl sz56 (by decide) rfl rfl) ?_
  refine x_val rfl rfl rfl (v_load Tryz.underlying56 rfl rfl (at_ownL (vs := [(.pointer (some ⟨p, 0, none⟩)), rowV r bs.length]) (.head _) rfl)) ?_
  refine x_val rfl rfl rfl (v_move rfl) ?_
  refine x_append_str (e := 5) [(p, _)] (l2 := l2) r (len := bs.length) (xs := byC bs) rfl rfl rfl rfl rfl hr Tryz.underlying56 Tryz.underlying9 ap5 (by simp only [maxLen]; omega) (by omega) ?_
  intro r' hr'
  refine x_val rfl rfl rfl (v_nilCheck rfl) ?_
  refine x_val rfl rfl rfl (v_fieldAddr (off' := 1) Tryz.underlying81 rfl sz56 (by decide) rfl rfl) ?_
  refine x_store [] rfl rfl rfl rfl sz56 rfl (by show 2 ≤ 2; decide) ?_
  refine x_end ?_
  refine t_norm ?_
  refine w_seq ?_
  refine rg_text ?_
  refine x_val rfl rfl rfl (v_move rfl) ?_
  refine x_val rfl rfl rfl (v_len_str Tryz.underlying9 rfl) ?_
  refine x_val rfl rfl rfl (v_assign rfl) ?_
  refine x_val rfl rfl rfl (v_assign rfl) ?_
  refine x_end ?_
  refine t_norm ?_
  refine w_ret ?_
  refine ret2 rfl rfl rfl (fun w' hm' => ⟨rfl, r', ?_, ?_⟩)
  · rw [byC_app, List.length_append, bl_len]; exact hr'
  · rw [List.length_append, bl_len]; exact hm'
set_option maxRecDepth 100000 in
theorem c_rs1 (c : UInt8) (w : World) :
    Calls Tryz.prog 71 #[.int .u8 (c.toNat : Nat)] w fun e w' => e = .returned (.bool (!capB c)) ∧ Later w w' := by
  refine enter (vs := [.int .u8 (c.toNat : Nat)]) Tryz.func71 rfl Tryz.ntmps71 rfl ?_
  refine w_seq ?_
  refine rg_text ?_
  refine x_val rfl rfl rfl (v_assign rfl) ?_
  refine x_end ?_
  refine t_norm ?_
  refine w_seq ?_
  refine rg_text ?_
  refine x_val rfl rfl rfl (v_move rfl) ?_
  refine x_callb rfl rfl rfl Tryz.func72 (by kernel_rfl) rfl (fun w1 hw1 => c_capital _ w1) ?_
  intro b4 hb4
  refine x_bool rfl rfl rfl (v_not rfl) ?_
  intro b5 hb5
  refine x_val rfl rfl rfl (v_assign rfl) ?_
  refine x_end ?_
  refine t_norm ?_
  refine w_ret ?_
  refine ret1 rfl rfl (fun w' hm => ⟨?_, hm.base (by simp)⟩)
  rw [hb5, hb4]
set_option maxRecDepth 100000 in
theorem c_rs2 {v : Value} {xs : List ByteArray} {D : Nat → Prop} (w : World) (h : sliceRd tyStr D w v xs) :
    Calls Tryz.prog 74 #[v] w fun e w' => e = .returned (.bool (xs.isEmpty)) ∧ Later w w' := by
  obtain ⟨A, c, rfl, _, _, _⟩ := h
  refine enter (vs := [.slice A xs.length c]) Tryz.func74 rfl Tryz.ntmps74 rfl ?_
  refine w_seq ?_
  refine rg_text ?_
  refine x_val rfl rfl rfl (v_assign rfl) ?_
  refine x_end ?_
  refine t_norm ?_
  refine w_seq ?_
  refine rg_text ?_
  refine x_val rfl rfl rfl (v_move rfl) ?_
  refine x_val rfl rfl rfl (v_len_slice Tryz.underlying54 rfl) ?_
  refine x_bool rfl rfl rfl (v_eql rfl rfl) ?_
  intro b5 hb5
  refine x_val rfl rfl rfl (v_assign rfl) ?_
  refine x_end ?_
  refine t_norm ?_
  refine w_ret ?_
  refine ret1 rfl rfl (fun w' hm => ⟨?_, hm.base (by simp)⟩)
  rw [hb5]; cases xs <;> simp <;> omega
set_option maxRecDepth 100000 in
theorem c_IF1 {v : Value} {xs : List UInt8} {D : Nat → Prop} (w : World) (hxs : sliceRd tyB D w v xs) :
    Calls Tryz.prog 87 #[v, .func (.func 71) #[] #[]] w fun e w' => e = .returned (.int .i64 (fidx (fun c => !capB c) xs)) ∧ Later w w' := by
  obtain ⟨A, cp, rfl, hlc, hmx, hA⟩ := id hxs
  refine enter (vs := [.slice A xs.length cp, .func (.func 71) #[] #[]]) Tryz.func87 rfl Tryz.ntmps87 rfl ?_
  refine w_seq ?_
  refine rg_text ?_
  refine x_val rfl rfl rfl (v_assign rfl) ?_
  refine x_end ?_
  refine t_norm ?_
  refine w_seq ?_
  refine w_seq ?_
  refine rg_text ?_
  refine x_val rfl rfl rfl (v_move rfl) ?_
  refine x_val rfl rfl rfl (v_len_slice Tryz.underlying56 rfl) ?_
  refine x_val rfl rfl rfl (v_move rfl) ?_
  refine x_end ?_
  refine t_norm ?_
  refine w_block ?_
  refine w_loop (σ := Nat) (fun k => k ≤ xs.length ∧ ∀ j (h : j < xs.length), j < k → (fun c => !capB c) xs[j] = false) (fun k => [(0, .slice A xs.length cp), (1, .func (.func 71) #[] #[]), (7, Value.int .i64 xs.length), (8, Value.int .i64 (k : Nat))]) (fun k => []) (fun k => [(w, fun _ => True)]) (fun k => xs.length - k) (0) (⟨Nat.zero_le _, by intros; omega⟩) (l_start (by repeat (first | exact Sub.nil | refine Sub.cons rfl ?_)) (fun _ h => h)) ?_
  rintro k ⟨hk, hno⟩
  refine w_state ([(0, .slice A xs.length cp), (1, .func (.func 71) #[] #[]), (7, Value.int .i64 xs.length), (8, Value.int .i64 (k : Nat))]) ([]) ([(w, fun _ => True)]) ?_
  refine w_seq ?_
  refine rg_text ?_
  refine x_bool rfl rfl rfl (v_lss rfl rfl) ?_
  intro b9 hb9
  refine x_end ?_
  refine t_norm ?_
  refine w_seq ?_
  refine w_cond rfl (fun hc9 => ?_) (fun hc9 => ?_)
  · simp only [hb9, decide_eq_true_eq, decide_eq_false_iff_not, Bool.and_eq_true, Bool.or_eq_true, Bool.and_eq_false_iff, Bool.or_eq_false_iff, Bool.not_eq_true', Bool.not_eq_false', ne_eq, Decidable.not_not] at hc9
    have hkl : k < xs.length := by omega
    obtain ⟨b0, o0, hA0, hD0, hc0⟩ := b_at hxs hkl
    subst hA0
    refine w_skip ?_
    refine t_norm ?_
    refine w_seq ?_
    refine w_block ?_
    refine w_seq ?_
    refine rg_text ?_
    refine x_val rfl rfl rfl (v_move rfl) ?_
    refine x_val rfl rfl rfl (v_assign rfl) ?_
    refine x_end ?_
    refine t_norm ?_
    refine w_seq ?_
    refine rg_text ?_
    refine x_val rfl rfl rfl (v_move rfl) ?_
    refine x_val rfl rfl rfl (v_move rfl) ?_
    refine x_val rfl rfl rfl (v_move rfl) ?_
    refine x_val rfl rfl rfl (v_indexAddr Tryz.underlying56 sz5 rfl rfl (by first | omega | (dsimp only; omega)) rfl) ?_
    refine x_val rfl rfl rfl (v_load Tryz.underlying5 rfl rfl (at_ro (.head _) trivial (by rw [Nat.mul_one]; exact hc0))) ?_
    refine x_clb rfl rfl rfl rfl Tryz.func71 (by kernel_rfl) rfl (fun w1 hw1 => calls_cl (c_rs1 xs[k] w1)) ?_
    intro b16 hb16
    refine x_end ?_
    refine t_norm ?_
    refine w_cond rfl (fun hc16 => ?_) (fun hc16 => ?_)
    · have hb : (fun c => !capB c) xs[k] = true := hb16.symm.trans hc16
      refine w_seq ?_
      refine rg_text ?_
      refine x_val rfl rfl rfl (v_move rfl) ?_
      refine x_val rfl rfl rfl (v_assign rfl) ?_
      refine x_end ?_
      refine t_norm ?_
      refine w_ret ?_
      refine b_ret ?_
      refine t_ret ?_
      refine t_ret ?_
      refine b_ret ?_
      refine t_ret ?_
      refine ret1 rfl rfl (fun w' hm => ⟨?_, hm.base (by simp)⟩)
      rw [fidx_at hkl hb hno]
    · have hb : (fun c => !capB c) xs[k] = false := hb16.symm.trans hc16
      refine w_skip ?_
      refine b_norm ?_
      refine t_norm ?_
      refine rg_text ?_
      refine x_val rfl rfl rfl (v_addi rfl rfl rfl (by first | omega | (dsimp only; omega))) ?_
      refine x_val rfl rfl rfl (v_move rfl) ?_
      refine x_end ?_
      exact l_norm (k + 1) ⟨by omega, fun j h hjk => by rcases Nat.lt_succ_iff_lt_or_eq.1 hjk with h2 | rfl; (· exact hno j h h2); exact hb⟩ (by omega) (by repeat (first | exact Sub.nil | refine Sub.cons rfl ?_)) (fun _ h => h)
  · simp only [hb9, decide_eq_true_eq, decide_eq_false_iff_not, Bool.and_eq_true, Bool.or_eq_true, Bool.and_eq_false_iff, Bool.or_eq_false_iff, Bool.not_eq_true', Bool.not_eq_false', ne_eq, Decidable.not_not] at hc9
    refine w_exit ?_
    refine t_exit ?_
    refine t_exit ?_
    refine b_hit ?_
    refine t_norm ?_
    refine w_seq ?_
    refine rg_text ?_
    refine x_val rfl rfl rfl (v_assign rfl) ?_
    refine x_end ?_
    refine t_norm ?_
    refine w_ret ?_
    refine ret1 rfl rfl (fun w' hm => ⟨?_, hm.base (by simp)⟩)
    rw [fidx_none (fun j h => hno j h (by omega))]
set_option maxRecDepth 100000 in
theorem c_IF2 {v : Value} {xs : List (List ByteArray)} {D : Nat → Prop} (w : World) (hxs : sliceRd (tySlice tyStr) D w v xs) :
    Calls Tryz.prog 88 #[v, .func (.func 74) #[] #[]] w fun e w' => e = .returned (.int .i64 (fidx (List.isEmpty) xs)) ∧ Later w w' := by
  obtain ⟨A, cp, rfl, hlc, hmx, hA⟩ := id hxs
  refine enter (vs := [.slice A xs.length cp, .func (.func 74) #[] #[]]) Tryz.func88 rfl Tryz.ntmps88 rfl ?_
  refine w_seq ?_
  refine rg_text ?_
  refine x_val rfl rfl rfl (v_assign rfl) ?_
  refine x_end ?_
  refine t_norm ?_
  refine w_seq ?_
  refine w_seq ?_
  refine rg_text ?_
  refine x_val rfl rfl rfl (v_move rfl) ?_
  refine x_val rfl rfl rfl (v_len_slice Tryz.underlying47 rfl) ?_
  refine x_val rfl rfl rfl (v_move rfl) ?_
  refine x_end ?_
  refine t_norm ?_
  refine w_block ?_
  refine w_loop (σ := Nat) (fun k => k ≤ xs.length ∧ ∀ j (h : j < xs.length), j < k → (List.isEmpty) xs[j] = false) (fun k => [(0, .slice A xs.length cp), (1, .func (.func 74) #[] #[]), (7, Value.int .i64 xs.length), (8, Value.int .i64 (k : Nat))]) (fun k => []) (fun k => [(w, fun _ => True)]) (fun k => xs.length - k) (0) (⟨Nat.zero_le _, by intros; omega⟩) (l_start (by repeat (first | exact Sub.nil | refine Sub.cons rfl ?_)) (fun _ h => h)) ?_
  rintro k ⟨hk, hno⟩
  refine w_state ([(0, .slice A xs.length cp), (1, .func (.func 74) #[] #[]), (7, Value.int .i64 xs.length), (8, Value.int .i64 (k : Nat))]) ([]) ([(w, fun _ => True)]) ?_
  refine w_seq ?_
  refine rg_text ?_
  refine x_bool rfl rfl rfl (v_lss rfl rfl) ?_
  intro b9 hb9
  refine x_end ?_
  refine t_norm ?_
  refine w_seq ?_
  refine w_cond rfl (fun hc9 => ?_) (fun hc9 => ?_)
  · simp only [hb9, decide_eq_true_eq, decide_eq_false_iff_not, Bool.and_eq_true, Bool.or_eq_true, Bool.and_eq_false_iff, Bool.or_eq_false_iff, Bool.not_eq_true', Bool.not_eq_false', ne_eq, Decidable.not_not] at hc9
    have hkl : k < xs.length := by omega
    obtain ⟨b0, o0, v0, hA0, hD0, hc0, hr0⟩ := sl_at hxs hkl
    subst hA0
    obtain ⟨A1, c1, rfl, _, _, _⟩ := id hr0
    refine w_skip ?_
    refine t_norm ?_
    refine w_seq ?_
    refine w_block ?_
    refine w_seq ?_
    refine rg_text ?_
    refine x_val rfl rfl rfl (v_move rfl) ?_
    refine x_val rfl rfl rfl (v_assign rfl) ?_
    refine x_end ?_
    refine t_norm ?_
    refine w_seq ?_
    refine rg_text ?_
    refine x_val rfl rfl rfl (v_move rfl) ?_
    refine x_val rfl rfl rfl (v_move rfl) ?_
    refine x_val rfl rfl rfl (v_move rfl) ?_
    refine x_val rfl rfl rfl (v_indexAddr Tryz.underlying47 sz54 rfl rfl (by first | omega | (dsimp only; omega)) rfl) ?_
    refine x_val rfl rfl rfl (v_load Tryz.underlying54 rfl rfl (at_ro (.head _) trivial (by rw [Nat.mul_one]; exact hc0))) ?_
    refine x_clb rfl rfl rfl rfl Tryz.func74 (by kernel_rfl) rfl (fun w1 hw1 => calls_cl (c_rs2 w1 (hr0.keep (Kept.later (hw1.base (by simp)))))) ?_
    intro b16 hb16
    refine x_end ?_
    refine t_norm ?_
    refine w_cond rfl (fun hc16 => ?_) (fun hc16 => ?_)
    · have hb : (List.isEmpty) xs[k] = true := hb16.symm.trans hc16
      refine w_seq ?_
      refine rg_text ?_
      refine x_val rfl rfl rfl (v_move rfl) ?_
      refine x_val rfl rfl rfl (v_assign rfl) ?_
      refine x_end ?_
      refine t_norm ?_
      refine w_ret ?_
      refine b_ret ?_
      refine t_ret ?_
      refine t_ret ?_
      refine b_ret ?_
      refine t_ret ?_
      refine ret1 rfl rfl (fun w' hm => ⟨?_, hm.base (by simp)⟩)
      rw [fidx_at hkl hb hno]
    · have hb : (List.isEmpty) xs[k] = false := hb16.symm.trans hc16
      refine w_skip ?_
      refine b_norm ?_
      refine t_norm ?_
      refine rg_text ?_
      refine x_val rfl rfl rfl (v_addi rfl rfl rfl (by first | omega | (dsimp only; omega))) ?_
      refine x_val rfl rfl rfl (v_move rfl) ?_
      refine x_end ?_
      exact l_norm (k + 1) ⟨by omega, fun j h hjk => by rcases Nat.lt_succ_iff_lt_or_eq.1 hjk with h2 | rfl; (· exact hno j h h2); exact hb⟩ (by omega) (by repeat (first | exact Sub.nil | refine Sub.cons rfl ?_)) (fun _ h => h)
  · simp only [hb9, decide_eq_true_eq, decide_eq_false_iff_not, Bool.and_eq_true, Bool.or_eq_true, Bool.and_eq_false_iff, Bool.or_eq_false_iff, Bool.not_eq_true', Bool.not_eq_false', ne_eq, Decidable.not_not] at hc9
    refine w_exit ?_
    refine t_exit ?_
    refine t_exit ?_
    refine b_hit ?_
    refine t_norm ?_
    refine w_seq ?_
    refine rg_text ?_
    refine x_val rfl rfl rfl (v_assign rfl) ?_
    refine x_end ?_
    refine t_norm ?_
    refine w_ret ?_
    refine ret1 rfl rfl (fun w' hm => ⟨?_, hm.base (by simp)⟩)
    rw [fidx_none (fun j h => hno j h (by omega))]
set_option maxRecDepth 100000 in
theorem c_CF1 {v : Value} {xs : List UInt8} {D : Nat → Prop} (w : World) (hxs : sliceRd tyB D w v xs) :
    Calls Tryz.prog 70 #[v, .func (.func 71) #[] #[]] w fun e w' => e = .returned (.bool (xs.any (fun c => !capB c))) ∧ Later w w' := by
  refine enter (vs := [v, .func (.func 71) #[] #[]]) Tryz.func70 rfl Tryz.ntmps70 rfl ?_
  refine w_seq ?_
  refine rg_text ?_
  refine x_val rfl rfl rfl (v_assign rfl) ?_
  refine x_end ?_
  refine t_norm ?_
  refine w_seq ?_
  refine rg_text ?_
  refine x_val rfl rfl rfl (v_move rfl) ?_
  refine x_val rfl rfl rfl (v_move rfl) ?_
  refine x_callv rfl rfl rfl Tryz.func87 (by kernel_rfl) rfl (fun w1 hw1 => c_IF1 w1 (hxs.keep (Kept.later (hw1.base (by simp))))) ?_
  refine x_bool rfl rfl rfl (v_geq rfl rfl) ?_
  intro b8 hb8
  refine x_val rfl rfl rfl (v_assign rfl) ?_
  refine x_end ?_
  refine t_norm ?_
  refine w_ret ?_
  refine ret1 rfl rfl (fun w' hm => ⟨?_, hm.base (by simp)⟩)
  rw [hb8, Bool.eq_iff_iff.2 (decide_eq_true_iff.trans (fidx_nn _ xs))]
set_option maxRecDepth 100000 in
theorem c_CF2 {v : Value} {xs : List (List ByteArray)} {D : Nat → Prop} (w : World) (hxs : sliceRd (tySlice tyStr) D w v xs) :
    Calls Tryz.prog 73 #[v, .func (.func 74) #[] #[]] w fun e w' => e = .returned (.bool (xs.any (List.isEmpty))) ∧ Later w w' := by
  refine enter (vs := [v, .func (.func 74) #[] #[]]) Tryz.func73 rfl Tryz.ntmps73 rfl ?_
  refine w_seq ?_
  refine rg_text ?_
  refine x_val rfl rfl rfl (v_assign rfl) ?_
  refine x_end ?_
  refine t_norm ?_
  refine w_seq ?_
  refine rg_text ?_
  refine x_val rfl rfl rfl (v_move rfl) ?_
  refine x_val rfl rfl rfl (v_move rfl) ?_
  refine x_callv rfl rfl rfl Tryz.func88 (by kernel_rfl) rfl (fun w1 hw1 => c_IF2 w1 (hxs.keep (Kept.later (hw1.base (by simp))))) ?_
  refine x_bool rfl rfl rfl (v_geq rfl rfl) ?_
  intro b8 hb8
  refine x_val rfl rfl rfl (v_assign rfl) ?_
  refine x_end ?_
  refine t_norm ?_
  refine w_ret ?_
  refine ret1 rfl rfl (fun w' hm => ⟨?_, hm.base (by simp)⟩)
  rw [hb8, Bool.eq_iff_iff.2 (decide_eq_true_iff.trans (fidx_nn _ xs))]
set_option maxRecDepth 100000 in
theorem c_rseg3 {x : Seg} {v : Value} {D : Nat → Prop} (w : World) (hv : sliceRd (tySlice tyStr) D w v x.els) (h3 : x.tag.size = 3) :
    Calls Tryz.prog 47 #[.agg #[.string x.tag, v]] w fun e w' => e = .returned (.bool (rightSg x)) ∧ Later w w' := by
  obtain ⟨A, cp, rfl, hlc, hmx, hA⟩ := id hv
  refine enter (vs := [.agg #[.string x.tag, .slice A x.els.length cp]]) Tryz.func47 rfl Tryz.ntmps47 rfl ?_
  refine w_seq ?_
  refine rg_text ?_
  refine x_box rfl rfl rfl rfl ?_
  intro p1
  refine x_val rfl rfl rfl (v_assign rfl) ?_
  refine x_end ?_
  refine t_norm ?_
  refine w_seq ?_
  refine w_seq ?_
  refine rg_text ?_
  refine x_val rfl rfl rfl (v_fieldAddr (off' := 0) Tryz.underlying49 rfl sz9 (by decide) rfl rfl) ?_
  refine x_val rfl rfl rfl (v_load Tryz.underlying9 rfl rfl (at_ownL (vs := [Value.string x.tag, .slice A x.els.length cp]) (.head _) rfl)) ?_
  refine x_val rfl rfl rfl (v_len_str Tryz.underlying9 rfl) ?_
  refine x_bool rfl rfl rfl (v_neq rfl rfl) ?_
  intro b6 hb6
  obtain rfl : b6 = false := by rw [hb6]; exact decide_eq_false (by omega)
  refine x_val rfl rfl rfl (v_move rfl) ?_
  refine x_go rfl rfl rfl rfl rfl (v_fieldAddr (off' := 0) Tryz.underlying49 rfl sz9 (by decide) rfl rfl) ?_
  refine x_go rfl rfl rfl rfl rfl (v_load Tryz.underlying9 rfl rfl (at_ownL (vs := [Value.string x.tag, .slice A x.els.length cp]) (.head _) rfl)) ?_
  refine x_bytes_g (e := 5) rfl rfl rfl rfl rfl Tryz.underlying9 Tryz.underlying56 Tryz.underlying5 rfl ?_
  intro p10 c10 cs10 fz10 hc10 ht10
  refine x_call_ifb [] rfl rfl rfl rfl rfl Tryz.func70 (by kernel_rfl) (fun hg => ⟨_, rfl, fun w1 hw1 => c_CF1 (xs := bl x.tag) (D := fun _ => True) w1 (bytes_rd (hw1.own_at (p10, _) (.head _)) (bl_len _).symm ht10 hc10 (by omega) trivial)⟩) ?_
  intro b11 hb11
  refine x_bool rfl rfl rfl (v_or rfl rfl) ?_
  intro b12 hb12
  refine x_end ?_
  refine t_norm ?_
  refine w_cond rfl (fun hc12 => ?_) (fun hc12 => ?_)
  · rw [hb12, hb11] at hc12
    refine w_seq ?_
    refine rg_text ?_
    refine x_val rfl rfl rfl (v_assign rfl) ?_
    refine x_end ?_
    refine t_norm ?_
    refine w_ret ?_
    refine t_ret ?_
    refine ret1 rfl rfl (fun w' hm => ⟨?_, hm.base (by simp)⟩)
    unfold rightSg; rw [Bool.false_or] at hc12; rw [hc12, decide_eq_true h3]; rfl
  · rw [hb12, hb11] at hc12
    refine w_skip ?_
    refine t_norm ?_
    refine w_seq ?_
    refine rg_text ?_
    refine x_val rfl rfl rfl (v_fieldAddr (off' := 1) Tryz.underlying49 rfl sz47 (by decide) rfl rfl) ?_
    refine x_val rfl rfl rfl (v_load Tryz.underlying47 rfl rfl (at_ownL (vs := [Value.string x.tag, .slice A x.els.length cp]) (.tail _ (.head _)) rfl)) ?_
    refine x_callb rfl rfl rfl Tryz.func73 (by kernel_rfl) rfl (fun w1 hw1 => c_CF2 w1 (hv.keep (Kept.later (hw1.base (by simp))))) ?_
    intro b15 hb15
    refine x_bool rfl rfl rfl (v_not rfl) ?_
    intro b16 hb16
    refine x_val rfl rfl rfl (v_assign rfl) ?_
    refine x_end ?_
    refine t_norm ?_
    refine w_ret ?_
    refine ret1 rfl rfl (fun w' hm => ⟨?_, hm.base (by simp)⟩)
    unfold rightSg; rw [Bool.false_or] at hc12; rw [hc12, decide_eq_true h3, hb16, hb15]; rfl
set_option maxRecDepth 100000 in
theorem c_rsegN {x : Seg} {v : Value} {D : Nat → Prop} (w : World) (hv : sliceRd (tySlice tyStr) D w v x.els) (h3 : ¬x.tag.size = 3) :
    Calls Tryz.prog 47 #[.agg #[.string x.tag, v]] w fun e w' => e = .returned (.bool (rightSg x)) ∧ Later w w' := by
  obtain ⟨A, cp, rfl, hlc, hmx, hA⟩ := id hv
  refine enter (vs := [.agg #[.string x.tag, .slice A x.els.length cp]]) Tryz.func47 rfl Tryz.ntmps47 rfl ?_
  refine w_seq ?_
  refine rg_text ?_
  refine x_box rfl rfl rfl rfl ?_
  intro p1
  refine x_val rfl rfl rfl (v_assign rfl) ?_
  refine x_end ?_
  refine t_norm ?_
  refine w_seq ?_
  refine w_seq ?_
  refine rg_text ?_
  refine x_val rfl rfl rfl (v_fieldAddr (off' := 0) Tryz.underlying49 rfl sz9 (by decide) rfl rfl) ?_
  refine x_val rfl rfl rfl (v_load Tryz.underlying9 rfl rfl (at_ownL (vs := [Value.string x.tag, .slice A x.els.length cp]) (.head _) rfl)) ?_
  refine x_val rfl rfl rfl (v_len_str Tryz.underlying9 rfl) ?_
  refine x_bool rfl rfl rfl (v_neq rfl rfl) ?_
  intro b6 hb6
  obtain rfl : b6 = true := by rw [hb6]; exact decide_eq_true (by omega)
  refine x_val rfl rfl rfl (v_move rfl) ?_
  refine x_no rfl rfl rfl rfl rfl ?_
  refine x_no rfl rfl rfl rfl rfl ?_
  refine x_no rfl rfl rfl rfl rfl ?_
  refine x_no rfl rfl rfl rfl rfl ?_
  refine x_val (v := .bool true) rfl rfl rfl (v_pick (b := true) rfl rfl) ?_
  refine x_end ?_
  refine t_norm ?_
  refine w_cond rfl (fun hc12 => ?_) (fun hc12 => ?_)
  · skip
    refine w_seq ?_
    refine rg_text ?_
    refine x_val rfl rfl rfl (v_assign rfl) ?_
    refine x_end ?_
    refine t_norm ?_
    refine w_ret ?_
    refine t_ret ?_
    refine ret1 rfl rfl (fun w' hm => ⟨?_, hm.base (by simp)⟩)
    unfold rightSg; rw [decide_eq_false h3]; rfl
  · cases hc12
theorem c_rseg {x : Seg} {v : Value} {D : Nat → Prop} (w : World) (hv : sliceRd (tySlice tyStr) D w v x.els) :
    Calls Tryz.prog 47 #[.agg #[.string x.tag, v]] w fun e w' => e = .returned (.bool (rightSg x)) ∧ Later w w' := by
  by_cases h3 : x.tag.size = 3
  · exact c_rseg3 w hv h3
  · exact c_rsegN w hv h3

end Go.Proofs.YtbamklefagghcaaGreatDoor

namespace Go.Proofs.YtbamklefagghcaaGreatDoor
open Go.RowKit Go.PK
set_option linter.unusedVariables false
set_option linter.unusedSimpArgs false
set_option maxRecDepth 100000 in
theorem c_Write {v : Value} {l : List Seg} {D : Nat → Prop} (w : World) (hl : sliceRd tySeg D w v l) (hT : (wrT l).length ≤ 2000000000000) :
    Calls Tryz.prog 22 #[v] w fun e w' => e = .returned (.tuple #[.string (wrR l).1, .int .i64 (wrR l).2]) ∧ Later w w' := by
  obtain ⟨A, cp, rfl, hlc, hmx, _⟩ := id hl
  refine enter (vs := [.slice A l.length cp]) Tryz.func22 rfl Tryz.ntmps22 rfl ?_
  refine w_seq ?_
  refine rg_text ?_
  refine x_val rfl rfl rfl (v_assign rfl) ?_
  refine x_val rfl rfl rfl (v_assign rfl) ?_
  refine x_end ?_
  refine t_norm ?_
  refine w_seq ?_
  refine w_seq ?_
  refine rg_text ?_
  refine x_val rfl rfl rfl (v_move rfl) ?_
  refine x_val rfl rfl rfl (v_len_slice Tryz.underlying29 rfl) ?_
  refine x_bool rfl rfl rfl (v_gtr rfl rfl) ?_
  intro b16 hb16
  refine x_end ?_
  refine t_norm ?_
  refine w_cond rfl (fun hc16 => ?_) (fun hc16 => ?_)
  · simp only [hb16, decide_eq_true_eq, decide_eq_false_iff_not, Bool.and_eq_true, Bool.or_eq_true, Bool.and_eq_false_iff, Bool.or_eq_false_iff, Bool.not_eq_true', Bool.not_eq_false', ne_eq, Decidable.not_not] at hc16
    have hmany : l.length > 10000 := by omega
    refine w_seq ?_
    refine rg_text ?_
    refine x_val rfl rfl rfl (v_assign rfl) ?_
    refine x_val rfl rfl rfl (v_assign rfl) ?_
    refine x_end ?_
    refine t_norm ?_
    refine w_ret ?_
    refine t_ret ?_
    refine ret2 rfl rfl rfl (fun w' hm' => ⟨?_, hm'.base (by simp)⟩)
    rw [wrR_many hmany]
  · simp only [hb16, decide_eq_false_iff_not] at hc16
    have hmany : ¬l.length > 10000 := by omega
    refine w_skip ?_
    refine t_norm ?_
    refine w_seq ?_
    refine rg_text ?_
    refine x_callv rfl rfl rfl Tryz.func46 (by kernel_rfl) rfl (fun w1 hw1 => c_usual w1) ?_
    refine x_alloc rfl rfl rfl zr77 ?_
    intro p4
    refine x_store0 [] rfl rfl rfl rfl sz77 rfl rfl ?_
    refine x_end ?_
    refine t_norm ?_
    refine w_seq ?_
    refine rg_text ?_
    refine x_alloc rfl rfl rfl zr81 ?_
    intro p5
    refine x_end ?_
    refine t_norm ?_
    refine w_seq ?_
    refine w_seq ?_
    refine rg_text ?_
    refine x_val rfl rfl rfl (v_move rfl) ?_
    refine x_val rfl rfl rfl (v_len_slice Tryz.underlying29 rfl) ?_
    refine x_val rfl rfl rfl (v_move rfl) ?_
    refine x_end ?_
    refine t_norm ?_
    refine w_block ?_
    refine w_loop (σ := Nat × List UInt8 × Value × RowS) (fun x => x.1 ≤ l.length ∧ x.2.1 ++ wrT (l.drop x.1) = wrT l ∧ ppOK p5 x.2.2.1 ∧ rowOK 1 x.2.2.2 x.2.1.length (byC x.2.1) ∧ ∀ j (h : j < l.length), j < x.1 → goodW j l[j]) (fun x => [(4, Value.pointer (some ⟨p4, 0, none⟩)), (5, Value.pointer (some ⟨p5, 0, none⟩)), (18, Value.slice A l.length cp), (19, Value.int .i64 (l.length : Nat)), (20, Value.int .i64 (x.1 : Nat))]) (fun x => bld2 81 5 p5 x.2.2.1 x.2.2.2 (x.2.1).length ++ [(p4, Obj.cells usualG.cells.toArray 77)]) (fun x => [(w, fun _ => True)]) (fun x => l.length - x.1) ((0, [], .pointer none, none)) (⟨Nat.zero_le _, rfl, .inl rfl, rowOK_nil, fun j h hj => by omega⟩) (l_start (by repeat (first | exact Sub.nil | refine Sub.cons rfl ?_)) (fun _ h => h)) ?_
    rintro ⟨k, bs, pp, r⟩ ⟨hk, hB, hp, hr, hgood⟩
    refine w_state ([(4, Value.pointer (some ⟨p4, 0, none⟩)), (5, Value.pointer (some ⟨p5, 0, none⟩)), (18, Value.slice A l.length cp), (19, Value.int .i64 (l.length : Nat)), (20, Value.int .i64 (k : Nat))]) (bld2 81 5 p5 pp r (bs).length ++ [(p4, Obj.cells usualG.cells.toArray 77)]) ([(w, fun _ => True)]) ?_
    dsimp only at hk hB hp hr hgood
    have hlen := len_le hB hT
    refine w_seq ?_
    refine rg_text ?_
    refine x_bool rfl rfl rfl (v_lss rfl rfl) ?_
    intro b21 hb21
    refine x_end ?_
    refine t_norm ?_
    refine w_seq ?_
    refine w_cond rfl (fun hc21 => ?_) (fun hc21 => ?_)
    · simp only [hb21, decide_eq_true_eq, decide_eq_false_iff_not, Bool.and_eq_true, Bool.or_eq_true, Bool.and_eq_false_iff, Bool.or_eq_false_iff, Bool.not_eq_true', Bool.not_eq_false', ne_eq, Decidable.not_not] at hc21
      have hkl : k < l.length := by omega
      obtain ⟨b1, o1, u1, hA1, _, ht1, hv1, hk1, hr1⟩ := seg_at hl hkl
      obtain ⟨A7, c7, rfl, hl7, hm7, _⟩ := id hr1
      refine w_skip ?_
      refine t_norm ?_
      refine w_seq ?_
      refine w_block ?_
      refine w_seq ?_
      refine rg_text ?_
      refine x_val rfl rfl rfl (v_move rfl) ?_
      refine x_val rfl rfl rfl (v_indexAddr Tryz.underlying29 sz49 (congrArg (fun A => some (Value.slice A l.length cp)) hA1) rfl (by first | omega | (dsimp only; omega)) rfl) ?_
      refine x_val rfl rfl rfl (v_loadN (vs := [Value.string l[k].tag, .slice A7 l[k].els.length c7]) Tryz.underlying49 rfl sz49 rfl (fun i hi => by match i, hi with | 0, _ => exact at_ro (.head _) trivial ht1 | 1, _ => exact at_ro (.head _) trivial hv1)) ?_
      refine x_alloc rfl rfl rfl zr49 ?_
      intro p7
      refine x_val rfl rfl rfl (v_assign rfl) ?_
      refine x_store0 [] rfl rfl rfl rfl sz49 rfl rfl ?_
      refine x_end ?_
      refine t_norm ?_
      refine w_seq ?_
      refine w_seq ?_
      refine x_memW (own' := bld2 81 5 p5 pp r (bs).length ++ [(p7, Obj.cells [Value.string l[k].tag, .slice A7 l[k].els.length c7].toArray 49), (p4, Obj.cells usualG.cells.toArray 77)]) (fun w1 h => h.perm (by exact (List.perm_middle (a := (p7, Obj.cells [Value.string l[k].tag, .slice A7 l[k].els.length c7].toArray 49)) (l₁ := bld2 81 5 p5 pp r (bs).length) (l₂ := [(p4, Obj.cells usualG.cells.toArray 77)])).symm)) ?_
      refine rg_text ?_
      refine x_val rfl rfl rfl (v_load_blk (e := 49) (fz := (0, 0)) (cs := [Value.string l[k].tag, .slice A7 l[k].els.length c7].toArray) Tryz.underlying49 rfl rfl (List.mem_append_right _ (.head _)) sz49) ?_
      refine x_callb rfl rfl rfl Tryz.func47 (by kernel_rfl) rfl (fun w1 hw1 => c_rseg (x := l[k]) w1 (hr1.keep (Kept.later (hw1.base (by simp))))) ?_
      intro b26 hb26
      refine x_bool rfl rfl rfl (v_not rfl) ?_
      intro b27 hb27
      refine x_val rfl rfl rfl (v_move rfl) ?_
      refine x_if [] rfl rfl rfl rfl rfl (fun hg => by obtain ⟨hg0, _⟩ := hg; subst hg0; (try simp only [List.cons_append, List.nil_append, gvl_nil, gvl_t, gvl_f]); exact v_move rfl) ?_
      refine x_ifb [] rfl rfl rfl rfl rfl (fun hg => by obtain ⟨hg0, _⟩ := hg; subst hg0; (try simp only [List.cons_append, List.nil_append, gvl_nil, gvl_t, gvl_f]); exact v_eql rfl rfl) ?_
      intro b30 hb30
      refine x_if [] rfl rfl rfl rfl rfl (fun hg => by obtain ⟨hg0, _⟩ := hg; subst hg0; (try simp only [List.cons_append, List.nil_append, gvl_nil, gvl_t, gvl_f]); exact v_move rfl) ?_
      refine x_if [(b27, false)] rfl rfl rfl rfl rfl (fun hg => by obtain ⟨hg0, hg1, _⟩ := hg; subst hg0; subst hg1; (try simp only [List.cons_append, List.nil_append, gvl_nil, gvl_t, gvl_f]); exact v_fieldAddr (off' := 0) Tryz.underlying49 rfl sz9 (by decide) rfl rfl) ?_
      refine x_if [(b27, false)] rfl rfl rfl rfl rfl (fun hg => by obtain ⟨hg0, hg1, _⟩ := hg; subst hg0; subst hg1; (try simp only [List.cons_append, List.nil_append, gvl_nil, gvl_t, gvl_f]); exact v_load Tryz.underlying9 rfl rfl (at_ownL (vs := [Value.string l[k].tag, .slice A7 l[k].els.length c7]) (List.mem_append_right _ (.head _)) rfl)) ?_
      refine x_ifb [(b27, false)] rfl rfl rfl rfl rfl (fun hg => by obtain ⟨hg0, hg1, _⟩ := hg; subst hg0; subst hg1; (try simp only [List.cons_append, List.nil_append, gvl_nil, gvl_t, gvl_f]); exact v_seql rfl rfl) ?_
      intro b34 hb34
      refine x_ifb [] rfl rfl rfl rfl rfl (fun hg => by obtain ⟨hg0, _⟩ := hg; subst hg0; (try simp only [List.cons_append, List.nil_append, gvl_nil, gvl_t, gvl_f]); exact v_and rfl rfl) ?_
      intro b35 hb35
      refine x_bool rfl rfl rfl (v_or rfl rfl) ?_
      intro b36 hb36
      refine x_end ?_
      refine t_norm ?_
      refine w_cond rfl (fun hc36 => ?_) (fun hc36 => ?_)
      · simp only [hb36, hb35, hb34, hb30, hb27, hb26, decide_eq_true_eq, decide_eq_false_iff_not, Bool.and_eq_true, Bool.or_eq_true, Bool.and_eq_false_iff, Bool.or_eq_false_iff, Bool.not_eq_true', Bool.not_eq_false', ne_eq, Decidable.not_not] at hc36
        have hbad : ¬goodW k l[k] := fun ⟨h1, h2⟩ => by rcases hc36 with h | h; (· rw [h1] at h; cases h); exact h2 ⟨by omega, h.2⟩
        refine w_seq ?_
        refine rg_text ?_
        refine x_val rfl rfl rfl (v_assign rfl) ?_
        refine x_val rfl rfl rfl (v_assign rfl) ?_
        refine x_end ?_
        refine t_norm ?_
        refine w_ret ?_
        refine t_ret ?_
        refine b_ret ?_
        refine t_ret ?_
        refine t_ret ?_
        refine b_ret ?_
        refine t_ret ?_
        refine ret2 rfl rfl rfl (fun w' hm' => ⟨?_, hm'.base (by simp)⟩)
        rw [wrR_bad hmany hkl hbad]
      · simp only [hb36, hb35, hb34, hb30, hb27, hb26, decide_eq_true_eq, decide_eq_false_iff_not, Bool.and_eq_true, Bool.or_eq_true, Bool.and_eq_false_iff, Bool.or_eq_false_iff, Bool.not_eq_true', Bool.not_eq_false', ne_eq, Decidable.not_not] at hc36
        have hgk : goodW k l[k] := ⟨hc36.1, fun h => by rcases hc36.2 with h2 | h2; (· exact h2 (by omega)); exact h2 h.2⟩
        have ht3 := rightSg_tag hgk.1
        refine w_skip ?_
        refine t_norm ?_
        refine w_seq ?_
        refine rg_text ?_
        refine x_val rfl rfl rfl (v_fieldAddr (off' := 0) Tryz.underlying49 rfl sz9 (by decide) rfl rfl) ?_
        refine x_val rfl rfl rfl (v_load Tryz.underlying9 rfl rfl (at_ownL (vs := [Value.string l[k].tag, .slice A7 l[k].els.length c7]) (List.mem_append_right _ (.head _)) rfl)) ?_
        refine x_turnf (τ := RowS) (v := .tuple #[.int .i64 (l[k].tag.size : Nat), .nilIface]) (fun r' => rowOK 1 r' (bs ++ bl l[k].tag).length (byC (bs ++ bl l[k].tag))) (fun r' => bld2 81 5 p5 (.pointer (some ⟨p5, 0, none⟩)) r' (bs ++ bl l[k].tag).length ++ [(p7, Obj.cells [Value.string l[k].tag, .slice A7 l[k].els.length c7].toArray 49), (p4, Obj.cells usualG.cells.toArray 77)]) rfl rfl Tryz.func48 (by kernel_rfl) rfl (fun w1 hw1 => (c_WS (bs := bs) w1 hw1 hp l[k].tag hr (by omega) (by omega)).mono fun e w2 ⟨h1, r', h2, h3⟩ => ⟨h1, r', h2, h3⟩) ?_
        intro r' hr'
        refine x_end ?_
        refine t_norm ?_
        refine w_seq ?_
        refine w_seq ?_
        refine rg_text ?_
        refine x_val rfl rfl rfl (v_fieldAddr (off' := 1) Tryz.underlying49 rfl sz47 (by decide) rfl rfl) ?_
        refine x_val rfl rfl rfl (v_load Tryz.underlying47 rfl rfl (at_ownL (vs := [Value.string l[k].tag, .slice A7 l[k].els.length c7]) (List.mem_append_right _ (.head _)) rfl)) ?_
        refine x_val rfl rfl rfl (v_len_slice Tryz.underlying47 rfl) ?_
        refine x_val rfl rfl rfl (v_move rfl) ?_
        refine x_end ?_
        refine t_norm ?_
        refine w_block ?_
        refine w_loop (σ := Nat × List UInt8 × RowS) (fun x => x.1 ≤ l[k].els.length ∧ x.2.1 ++ ((l[k].els.drop x.1).flatMap (elT 43) ++ ([39] ++ wrT (l.drop (k + 1)))) = wrT l ∧ rowOK 1 x.2.2 x.2.1.length (byC x.2.1)) (fun x => [(4, Value.pointer (some ⟨p4, 0, none⟩)), (5, Value.pointer (some ⟨p5, 0, none⟩)), (18, Value.slice A l.length cp), (19, Value.int .i64 (l.length : Nat)), (20, Value.int .i64 (k : Nat)), (41, Value.slice A7 l[k].els.length c7), (42, Value.int .i64 (l[k].els.length : Nat)), (43, Value.int .i64 (x.1 : Nat))]) (fun x => bld2 81 5 p5 (.pointer (some ⟨p5, 0, none⟩)) x.2.2 (x.2.1).length ++ [(p7, Obj.cells [Value.string l[k].tag, .slice A7 l[k].els.length c7].toArray 49), (p4, Obj.cells usualG.cells.toArray 77)]) (fun x => [(w, fun _ => True)]) (fun x => l[k].els.length - x.1) ((0, bs ++ bl l[k].tag, r')) (⟨Nat.zero_le _, by dsimp only; rw [List.drop_zero, List.append_assoc, ← wrT_drop hkl]; exact hB, hr'⟩) (l_start (by repeat (first | exact Sub.nil | refine Sub.cons rfl ?_)) (fun _ h => h)) ?_
        rintro ⟨j, bs, r⟩ ⟨hj, hB, hr⟩
        refine w_state ([(4, Value.pointer (some ⟨p4, 0, none⟩)), (5, Value.pointer (some ⟨p5, 0, none⟩)), (18, Value.slice A l.length cp), (19, Value.int .i64 (l.length : Nat)), (20, Value.int .i64 (k : Nat)), (41, Value.slice A7 l[k].els.length c7), (42, Value.int .i64 (l[k].els.length : Nat)), (43, Value.int .i64 (j : Nat))]) (bld2 81 5 p5 (.pointer (some ⟨p5, 0, none⟩)) r (bs).length ++ [(p7, Obj.cells [Value.string l[k].tag, .slice A7 l[k].els.length c7].toArray 49), (p4, Obj.cells usualG.cells.toArray 77)]) ([(w, fun _ => True)]) ?_
        dsimp only at hj hB hr
        have hlen := len_le hB hT
        refine w_seq ?_
        refine rg_text ?_
        refine x_bool rfl rfl rfl (v_lss rfl rfl) ?_
        intro b44 hb44
        refine x_end ?_
        refine t_norm ?_
        refine w_seq ?_
        refine w_cond rfl (fun hc44 => ?_) (fun hc44 => ?_)
        · simp only [hb44, decide_eq_true_eq, decide_eq_false_iff_not, Bool.and_eq_true, Bool.or_eq_true, Bool.and_eq_false_iff, Bool.or_eq_false_iff, Bool.not_eq_true', Bool.not_eq_false', ne_eq, Decidable.not_not] at hc44
          have hjl : j < l[k].els.length := by omega
          obtain ⟨b2, o2, u2, hA2, _, hc2, hr2⟩ := sl_at hr1 hjl
          obtain ⟨A8, c8, rfl, hl8, hm8, _⟩ := id hr2
          obtain ⟨ee, hee⟩ : ∃ ee, l[k].els[j] = ee := ⟨_, rfl⟩
          rw [hee] at hr2 hc2 hl8 hm8
          refine w_skip ?_
          refine t_norm ?_
          refine w_seq ?_
          refine w_block ?_
          refine w_seq ?_
          refine rg_text ?_
          refine x_val rfl rfl rfl (v_indexAddr Tryz.underlying47 sz54 (congrArg (fun A => some (Value.slice A l[k].els.length c7)) hA2) rfl (by first | omega | (dsimp only; omega)) rfl) ?_
          refine x_val rfl rfl rfl (v_load Tryz.underlying54 rfl rfl (at_ro (.head _) trivial (by rw [Nat.mul_one]; exact hc2))) ?_
          refine x_val rfl rfl rfl (v_assign rfl) ?_
          refine x_end ?_
          refine t_norm ?_
          refine w_seq ?_
          refine rg_text ?_
          refine x_val rfl rfl rfl (v_fieldAddr (off' := 1) Tryz.underlying77 rfl sz5 (by decide) rfl rfl) ?_
          refine x_val rfl rfl rfl (v_load Tryz.underlying5 rfl rfl (at_ownL (vs := usualG.cells) (List.mem_append_right _ (.tail _ (.head _))) rfl)) ?_
          refine x_val rfl rfl rfl (v_assign rfl) ?_
          refine x_end ?_
          refine t_norm ?_
          refine w_seq ?_
          refine rg_text ?_
          refine x_val rfl rfl rfl (v_move rfl) ?_
          refine x_val rfl rfl rfl (v_len_slice Tryz.underlying54 rfl) ?_
          refine x_val rfl rfl rfl (v_move rfl) ?_
          refine x_end ?_
          refine t_norm ?_
          refine w_block ?_
          refine w_loop (σ := Nat × UInt8 × List UInt8 × RowS) (fun x => x.1 ≤ ee.length ∧ (x.1 ≠ 0 → x.2.1 = 58) ∧ x.2.2.1 ++ (elT x.2.1 (ee.drop x.1) ++ ((l[k].els.drop (j + 1)).flatMap (elT 43) ++ ([39] ++ wrT (l.drop (k + 1))))) = wrT l ∧ rowOK 1 x.2.2.2 x.2.2.1.length (byC x.2.2.1)) (fun x => [(4, Value.pointer (some ⟨p4, 0, none⟩)), (5, Value.pointer (some ⟨p5, 0, none⟩)), (18, Value.slice A l.length cp), (19, Value.int .i64 (l.length : Nat)), (20, Value.int .i64 (k : Nat)), (41, Value.slice A7 l[k].els.length c7), (42, Value.int .i64 (l[k].els.length : Nat)), (43, Value.int .i64 (j : Nat)), (10, Value.int .u8 (x.2.1.toNat : Nat)), (49, Value.slice A8 ee.length c8), (50, Value.int .i64 (ee.length : Nat)), (51, Value.int .i64 (x.1 : Nat))]) (fun x => bld2 81 5 p5 (.pointer (some ⟨p5, 0, none⟩)) x.2.2.2 (x.2.2.1).length ++ [(p7, Obj.cells [Value.string l[k].tag, .slice A7 l[k].els.length c7].toArray 49), (p4, Obj.cells usualG.cells.toArray 77)]) (fun x => [(w, fun _ => True)]) (fun x => ee.length - x.1) ((0, 43, bs, r)) (⟨Nat.zero_le _, fun h => absurd rfl h, by dsimp only; rw [List.drop_zero, ← hB, els_drop hjl, hee]; simp only [List.append_assoc], hr⟩) (l_start (by repeat (first | exact Sub.nil | refine Sub.cons rfl ?_)) (fun _ h => h)) ?_
          rintro ⟨i, c, bs, r⟩ ⟨hi, hc58, hB, hr⟩
          refine w_state ([(4, Value.pointer (some ⟨p4, 0, none⟩)), (5, Value.pointer (some ⟨p5, 0, none⟩)), (18, Value.slice A l.length cp), (19, Value.int .i64 (l.length : Nat)), (20, Value.int .i64 (k : Nat)), (41, Value.slice A7 l[k].els.length c7), (42, Value.int .i64 (l[k].els.length : Nat)), (43, Value.int .i64 (j : Nat)), (10, Value.int .u8 (c.toNat : Nat)), (49, Value.slice A8 ee.length c8), (50, Value.int .i64 (ee.length : Nat)), (51, Value.int .i64 (i : Nat))]) (bld2 81 5 p5 (.pointer (some ⟨p5, 0, none⟩)) r (bs).length ++ [(p7, Obj.cells [Value.string l[k].tag, .slice A7 l[k].els.length c7].toArray 49), (p4, Obj.cells usualG.cells.toArray 77)]) ([(w, fun _ => True)]) ?_
          dsimp only at hi hc58 hB hr
          have hlen := len_le hB hT
          refine w_seq ?_
          refine rg_text ?_
          refine x_bool rfl rfl rfl (v_lss rfl rfl) ?_
          intro b52 hb52
          refine x_end ?_
          refine t_norm ?_
          refine w_seq ?_
          refine w_cond rfl (fun hc52 => ?_) (fun hc52 => ?_)
          · simp only [hb52, decide_eq_true_eq, decide_eq_false_iff_not, Bool.and_eq_true, Bool.or_eq_true, Bool.and_eq_false_iff, Bool.or_eq_false_iff, Bool.not_eq_true', Bool.not_eq_false', ne_eq, Decidable.not_not] at hc52
            have hil : i < ee.length := by omega
            obtain ⟨b3, o3, hA3, _, hc3, hok3⟩ := s_at hr2 hil
            unfold okS at hok3
            refine w_skip ?_
            refine t_norm ?_
            refine w_seq ?_
            refine w_block ?_
            refine w_seq ?_
            refine rg_text ?_
            refine x_val rfl rfl rfl (v_indexAddr Tryz.underlying54 sz9 (congrArg (fun A => some (Value.slice A ee.length c8)) hA3) rfl (by first | omega | (dsimp only; omega)) rfl) ?_
            refine x_val rfl rfl rfl (v_load Tryz.underlying9 rfl rfl (at_ro (.head _) trivial (by rw [Nat.mul_one]; exact hc3))) ?_
            refine x_val rfl rfl rfl (v_assign rfl) ?_
            refine x_end ?_
            refine t_norm ?_
            refine w_seq ?_
            refine rg_text ?_
            refine x_val rfl rfl rfl (v_move rfl) ?_
            refine x_turnf (τ := RowS) (v := .nilIface) (fun r' => rowOK 1 r' (bs ++ [c]).length (byC (bs ++ [c]))) (fun r' => bld2 81 5 p5 (.pointer (some ⟨p5, 0, none⟩)) r' (bs ++ [c]).length ++ [(p7, Obj.cells [Value.string l[k].tag, .slice A7 l[k].els.length c7].toArray 49), (p4, Obj.cells usualG.cells.toArray 77)]) rfl rfl Tryz.func49 (by kernel_rfl) rfl (fun w1 hw1 => (c_WB (bs := bs) w1 hw1 (.inr rfl) (c) hr (by omega)).mono fun e w2 ⟨h1, r', h2, h3⟩ => ⟨h1, r', h2, h3⟩) ?_
            intro r' hr'
            refine x_end ?_
            refine t_norm ?_
            refine w_seq ?_
            refine w_seq ?_
            refine rg_text ?_
            refine x_val rfl rfl rfl (v_move rfl) ?_
            refine x_val rfl rfl rfl (v_len_str Tryz.underlying9 rfl) ?_
            refine x_val rfl rfl rfl (v_move rfl) ?_
            refine x_end ?_
            refine t_norm ?_
            refine w_block ?_
            refine w_loop (σ := Nat × List UInt8 × RowS) (fun x => x.1 ≤ ee[i].size ∧ x.2.1 ++ (escL ((bl ee[i]).drop x.1) ++ (elT 58 (ee.drop (i + 1)) ++ ((l[k].els.drop (j + 1)).flatMap (elT 43) ++ ([39] ++ wrT (l.drop (k + 1)))))) = wrT l ∧ rowOK 1 x.2.2 x.2.1.length (byC x.2.1)) (fun x => [(4, Value.pointer (some ⟨p4, 0, none⟩)), (5, Value.pointer (some ⟨p5, 0, none⟩)), (18, Value.slice A l.length cp), (19, Value.int .i64 (l.length : Nat)), (20, Value.int .i64 (k : Nat)), (41, Value.slice A7 l[k].els.length c7), (42, Value.int .i64 (l[k].els.length : Nat)), (43, Value.int .i64 (j : Nat)), (10, Value.int .u8 (c.toNat : Nat)), (49, Value.slice A8 ee.length c8), (50, Value.int .i64 (ee.length : Nat)), (51, Value.int .i64 (i : Nat)), (12, Value.string ee[i]), (58, Value.int .i64 (ee[i].size : Nat)), (59, Value.int .i64 (x.1 : Nat))]) (fun x => bld2 81 5 p5 (.pointer (some ⟨p5, 0, none⟩)) x.2.2 (x.2.1).length ++ [(p7, Obj.cells [Value.string l[k].tag, .slice A7 l[k].els.length c7].toArray 49), (p4, Obj.cells usualG.cells.toArray 77)]) (fun x => [(w, fun _ => True)]) (fun x => ee[i].size - x.1) ((0, bs ++ [c], r')) (⟨Nat.zero_le _, by dsimp only; rw [List.drop_zero, ← hB, elT_drop hil]; simp only [List.append_assoc, List.cons_append, List.nil_append], hr'⟩) (l_start (by repeat (first | exact Sub.nil | refine Sub.cons rfl ?_)) (fun _ h => h)) ?_
            rintro ⟨m, bs, r⟩ ⟨hm, hB, hr⟩
            refine w_state ([(4, Value.pointer (some ⟨p4, 0, none⟩)), (5, Value.pointer (some ⟨p5, 0, none⟩)), (18, Value.slice A l.length cp), (19, Value.int .i64 (l.length : Nat)), (20, Value.int .i64 (k : Nat)), (41, Value.slice A7 l[k].els.length c7), (42, Value.int .i64 (l[k].els.length : Nat)), (43, Value.int .i64 (j : Nat)), (10, Value.int .u8 (c.toNat : Nat)), (49, Value.slice A8 ee.length c8), (50, Value.int .i64 (ee.length : Nat)), (51, Value.int .i64 (i : Nat)), (12, Value.string ee[i]), (58, Value.int .i64 (ee[i].size : Nat)), (59, Value.int .i64 (m : Nat))]) (bld2 81 5 p5 (.pointer (some ⟨p5, 0, none⟩)) r (bs).length ++ [(p7, Obj.cells [Value.string l[k].tag, .slice A7 l[k].els.length c7].toArray 49), (p4, Obj.cells usualG.cells.toArray 77)]) ([(w, fun _ => True)]) ?_
            dsimp only at hm hB hr
            have hlen := len_le hB hT
            refine w_seq ?_
            refine rg_text ?_
            refine x_bool rfl rfl rfl (v_lss rfl rfl) ?_
            intro b60 hb60
            refine x_end ?_
            refine t_norm ?_
            refine w_seq ?_
            refine w_cond rfl (fun hc60 => ?_) (fun hc60 => ?_)
            · simp only [hb60, decide_eq_true_eq, decide_eq_false_iff_not, Bool.and_eq_true, Bool.or_eq_true, Bool.and_eq_false_iff, Bool.or_eq_false_iff, Bool.not_eq_true', Bool.not_eq_false', ne_eq, Decidable.not_not] at hc60
              have hml : m < ee[i].size := by omega
              rw [esc_drop hml] at hB
              refine w_skip ?_
              refine t_norm ?_
              refine w_seq ?_
              refine w_block ?_
              refine w_seq ?_
              refine rg_text ?_
              refine x_val rfl rfl rfl (v_move rfl) ?_
              refine x_val rfl rfl rfl (v_assign rfl) ?_
              refine x_end ?_
              refine t_norm ?_
              refine w_seq ?_
              refine w_seq ?_
              refine rg_draw 6 [(true, 0), (true, 2), (true, 3), (true, 4), (false, 1), (true, 5)] (by kernel_rfl) (by kernel_rfl) ?_
              refine x_val rfl rfl rfl (v_load_blk (e := 77) (fz := (0, 0)) (cs := usualG.cells.toArray) Tryz.underlying77 rfl rfl (List.mem_append_right _ (.tail _ (.head _))) sz77) ?_
              refine x_val rfl rfl rfl (v_move rfl) ?_
              refine x_val rfl rfl rfl (v_move rfl) ?_
              refine x_val rfl rfl rfl (v_index Tryz.underlying9 rfl rfl (hml)) ?_
              refine x_call rfl rfl rfl Tryz.func51 (by kernel_rfl) rfl (fun w1 hw1 => c_list usualG w1) ?_
              intro v63 wa63 wb63 hm63 hl63 hr63
              obtain ⟨A9, c9, hv9, hl9, _⟩ := id hr63
              subst hv9
              refine x_callb rfl rfl rfl Tryz.func50 (by kernel_rfl) rfl (fun w1 hw1 => c_Contains (bs := gl usualG) _ w1 (keep_new hr63 hw1 (.head _) hm63)) ?_
              intro b67 hb67
              refine x_end ?_
              refine t_norm ?_
              refine w_cond rfl (fun hc67 => ?_) (fun hc67 => ?_)
              · have hsg : signB (byteAt ee[i] m) = true := by rw [← usual_sign, ← hb67]; exact hc67
                unfold escB at hB
                rw [if_pos hsg] at hB
                refine rg_text ?_
                refine x_val rfl rfl rfl (v_fieldAddr (off' := 2) Tryz.underlying77 rfl sz5 (by decide) rfl rfl) ?_
                refine x_val rfl rfl rfl (v_load Tryz.underlying5 rfl rfl (at_ownL (vs := usualG.cells) (List.mem_append_right _ (.tail _ (.head _))) rfl)) ?_
                refine x_turnf (τ := RowS) (v := .nilIface) (fun r' => rowOK 1 r' (bs ++ [63]).length (byC (bs ++ [63]))) (fun r' => bld2 81 5 p5 (.pointer (some ⟨p5, 0, none⟩)) r' (bs ++ [63]).length ++ [(p7, Obj.cells [Value.string l[k].tag, .slice A7 l[k].els.length c7].toArray 49), (p4, Obj.cells usualG.cells.toArray 77)]) rfl rfl Tryz.func49 (by kernel_rfl) rfl (fun w1 hw1 => (c_WB (bs := bs) w1 hw1 (.inr rfl) (63) hr (by omega)).mono fun e w2 ⟨h1, r', h2, h3⟩ => ⟨h1, r', h2, h3⟩) ?_
                intro r' hr'
                refine x_end ?_
                refine t_norm ?_
                refine rg_text ?_
                refine x_val rfl rfl rfl (v_move rfl) ?_
                refine x_val rfl rfl rfl (v_move rfl) ?_
                refine x_val rfl rfl rfl (v_index Tryz.underlying9 rfl rfl (hml)) ?_
                refine x_turnf (τ := RowS) (v := .nilIface) (fun r' => rowOK 1 r' ((bs ++ [63]) ++ [byteAt ee[i] m]).length (byC ((bs ++ [63]) ++ [byteAt ee[i] m]))) (fun r' => bld2 81 5 p5 (.pointer (some ⟨p5, 0, none⟩)) r' ((bs ++ [63]) ++ [byteAt ee[i] m]).length ++ [(p7, Obj.cells [Value.string l[k].tag, .slice A7 l[k].els.length c7].toArray 49), (p4, Obj.cells usualG.cells.toArray 77)]) rfl rfl Tryz.func49 (by kernel_rfl) rfl (fun w1 hw1 => (c_WB (bs := (bs ++ [63])) w1 hw1 (.inr rfl) (byteAt ee[i] m) hr' (by rw [List.length_append, List.length_singleton]; omega)).mono fun e w2 ⟨h1, r', h2, h3⟩ => ⟨h1, r', h2, h3⟩) ?_
                intro r' hr'
                refine x_end ?_
                refine b_norm ?_
                refine t_norm ?_
                refine rg_text ?_
                refine x_val rfl rfl rfl (v_addi rfl rfl rfl (by first | omega | (dsimp only; omega))) ?_
                refine x_val rfl rfl rfl (v_move rfl) ?_
                refine x_end ?_
                exact l_norm (m + 1, (bs ++ [63]) ++ [byteAt ee[i] m], r') (⟨by dsimp only; omega, by dsimp only; rw [← hB]; simp only [List.append_assoc, List.cons_append, List.nil_append], hr'⟩) (by simp only; omega) (by repeat (first | exact Sub.nil | refine Sub.cons rfl ?_)) (fun w1 h => h.less (List.Sublist.refl _) (fun q hq => by simp at hq ⊢; simp [hq]))
              · have hsg : ¬signB (byteAt ee[i] m) = true := by rw [← usual_sign, ← hb67, hc67]; exact Bool.false_ne_true
                unfold escB at hB
                rw [if_neg hsg] at hB
                refine w_skip ?_
                refine t_norm ?_
                refine rg_text ?_
                refine x_val rfl rfl rfl (v_move rfl) ?_
                refine x_val rfl rfl rfl (v_move rfl) ?_
                refine x_val rfl rfl rfl (v_index Tryz.underlying9 rfl rfl (hml)) ?_
                refine x_turnf (τ := RowS) (v := .nilIface) (fun r' => rowOK 1 r' (bs ++ [byteAt ee[i] m]).length (byC (bs ++ [byteAt ee[i] m]))) (fun r' => bld2 81 5 p5 (.pointer (some ⟨p5, 0, none⟩)) r' (bs ++ [byteAt ee[i] m]).length ++ [(p7, Obj.cells [Value.string l[k].tag, .slice A7 l[k].els.length c7].toArray 49), (p4, Obj.cells usualG.cells.toArray 77)]) rfl rfl Tryz.func49 (by kernel_rfl) rfl (fun w1 hw1 => (c_WB (bs := bs) w1 hw1 (.inr rfl) (byteAt ee[i] m) hr (by omega)).mono fun e w2 ⟨h1, r', h2, h3⟩ => ⟨h1, r', h2, h3⟩) ?_
                intro r' hr'
                refine x_end ?_
                refine b_norm ?_
                refine t_norm ?_
                refine rg_text ?_
                refine x_val rfl rfl rfl (v_addi rfl rfl rfl (by first | omega | (dsimp only; omega))) ?_
                refine x_val rfl rfl rfl (v_move rfl) ?_
                refine x_end ?_
                exact l_norm (m + 1, bs ++ [byteAt ee[i] m], r') (⟨by dsimp only; omega, by dsimp only; rw [← hB]; simp only [List.append_assoc, List.cons_append, List.nil_append], hr'⟩) (by simp only; omega) (by repeat (first | exact Sub.nil | refine Sub.cons rfl ?_)) (fun w1 h => h.less (List.Sublist.refl _) (fun q hq => by simp at hq ⊢; simp [hq]))
            · simp only [hb60, decide_eq_false_iff_not] at hc60
              have hdr : (bl ee[i]).drop m = [] := List.drop_eq_nil_of_le (by rw [bl_len]; omega)
              rw [hdr] at hB
              refine w_exit ?_
              refine t_exit ?_
              refine t_exit ?_
              refine b_hit ?_
              refine t_norm ?_
              refine rg_text ?_
              refine x_val rfl rfl rfl (v_fieldAddr (off' := 0) Tryz.underlying77 rfl sz5 (by decide) rfl rfl) ?_
              refine x_val rfl rfl rfl (v_load Tryz.underlying5 rfl rfl (at_ownL (vs := usualG.cells) (List.mem_append_right _ (.tail _ (.head _))) rfl)) ?_
              refine x_val rfl rfl rfl (v_assign rfl) ?_
              refine x_end ?_
              refine b_norm ?_
              refine t_norm ?_
              refine rg_text ?_
              refine x_val rfl rfl rfl (v_addi rfl rfl rfl (by first | omega | (dsimp only; omega))) ?_
              refine x_val rfl rfl rfl (v_move rfl) ?_
              refine x_end ?_
              exact l_norm (i + 1, 58, bs, r) (⟨by dsimp only; omega, fun _ => rfl, by dsimp only; rw [← hB]; rfl, hr⟩) (by simp only; omega) (by repeat (first | exact Sub.nil | refine Sub.cons rfl ?_)) (fun w1 h => h.less (List.Sublist.refl _) (fun q hq => by simp at hq ⊢; simp [hq]))
          · simp only [hb52, decide_eq_false_iff_not] at hc52
            rw [drop_all (k := i) (by omega)] at hB
            refine w_exit ?_
            refine t_exit ?_
            refine t_exit ?_
            refine b_hit ?_
            refine b_norm ?_
            refine t_norm ?_
            refine rg_text ?_
            refine x_val rfl rfl rfl (v_addi rfl rfl rfl (by first | omega | (dsimp only; omega))) ?_
            refine x_val rfl rfl rfl (v_move rfl) ?_
            refine x_end ?_
            exact l_norm (j + 1, bs, r) (⟨by dsimp only; omega, hB, hr⟩) (by simp only; omega) (by repeat (first | exact Sub.nil | refine Sub.cons rfl ?_)) (fun w1 h => h.less (List.Sublist.refl _) (fun q hq => by simp at hq ⊢; simp [hq]))
        · simp only [hb44, decide_eq_false_iff_not] at hc44
          rw [drop_all (k := j) (by omega)] at hB
          refine w_exit ?_
          refine t_exit ?_
          refine t_exit ?_
          refine b_hit ?_
          refine t_norm ?_
          refine rg_text ?_
          refine x_val rfl rfl rfl (v_fieldAddr (off' := 3) Tryz.underlying77 rfl sz5 (by decide) rfl rfl) ?_
          refine x_val rfl rfl rfl (v_load Tryz.underlying5 rfl rfl (at_ownL (vs := usualG.cells) (List.mem_append_right _ (.tail _ (.head _))) rfl)) ?_
          refine x_turnf (τ := RowS) (v := .nilIface) (fun r' => rowOK 1 r' (bs ++ [39]).length (byC (bs ++ [39]))) (fun r' => bld2 81 5 p5 (.pointer (some ⟨p5, 0, none⟩)) r' (bs ++ [39]).length ++ [(p7, Obj.cells [Value.string l[k].tag, .slice A7 l[k].els.length c7].toArray 49), (p4, Obj.cells usualG.cells.toArray 77)]) rfl rfl Tryz.func49 (by kernel_rfl) rfl (fun w1 hw1 => (c_WB (bs := bs) w1 hw1 (.inr rfl) (39) hr (by omega)).mono fun e w2 ⟨h1, r', h2, h3⟩ => ⟨h1, r', h2, h3⟩) ?_
          intro r' hr'
          refine x_end ?_
          refine b_norm ?_
          refine t_norm ?_
          refine rg_text ?_
          refine x_val rfl rfl rfl (v_addi rfl rfl rfl (by first | omega | (dsimp only; omega))) ?_
          refine x_val rfl rfl rfl (v_move rfl) ?_
          refine x_end ?_
          exact l_norm (k + 1, bs ++ [39], (.pointer (some ⟨p5, 0, none⟩)), r') (⟨by dsimp only; omega, by dsimp only; rw [← hB]; simp only [List.flatMap_nil, List.append_assoc, List.nil_append], .inr rfl, hr', fun j h hj => by rcases Nat.lt_succ_iff_lt_or_eq.1 hj with h2 | rfl; (· exact hgood j h h2); exact hgk⟩) (by simp only; omega) (by repeat (first | exact Sub.nil | refine Sub.cons rfl ?_)) (fun w1 h => h.less ((List.Sublist.refl _).append (List.sublist_cons_self _ _)) (fun q hq => by simp at hq ⊢; simp [hq]))
    · simp only [hb21, decide_eq_false_iff_not] at hc21
      rw [drop_all (k := k) (by omega)] at hB
      have hbs : bs = wrT l := by rw [← hB]; exact (List.append_nil _).symm
      subst hbs
      refine w_exit ?_
      refine t_exit ?_
      refine t_exit ?_
      refine b_hit ?_
      refine t_norm ?_
      refine w_seq ?_
      refine x_memW (own' := bld2 81 5 p5 pp r ((wrT l)).length ++ []) (fun w1 h => h.less ((List.Sublist.refl _).append (List.nil_sublist _)) (fun _ h => h)) ?_
      refine rg_text ?_
      refine x_turnf (τ := Unit) (v := .string ⟨(wrT l).toArray⟩) (fun _ => True) (fun _ => []) rfl rfl Tryz.func52 (by kernel_rfl) rfl (fun w1 hw1 => (c_BS (bs := wrT l) w1 hw1 hp hr (B := w.heap.size) (fun q hq => by rw [List.mem_singleton.1 hq]; exact Nat.le_refl _) (fun q hq => by cases hq) (fun q hq => hw1.newer (by simp) (List.mem_append_left _ hq)) (hw1.base (by simp)).size).mono fun e w2 h => ⟨h.1, (), trivial, h.2⟩) ?_
      intro _ _
      refine x_val rfl rfl rfl (v_assign rfl) ?_
      refine x_val rfl rfl rfl (v_assign rfl) ?_
      refine x_end ?_
      refine t_norm ?_
      refine w_ret ?_
      refine ret2 rfl rfl rfl (fun w' hm' => ⟨?_, hm'.base (by simp)⟩)
      rw [wrR_ok hmany (fun j h => hgood j h (by omega))]

end Go.Proofs.YtbamklefagghcaaGreatDoor

namespace Go.Proofs.YtbamklefagghcaaGreatDoor
open Go.RowKit Go.PK
set_option linter.unusedVariables false
set_option linter.unusedSimpArgs false

end Go.Proofs.YtbamklefagghcaaGreatDoor

namespace Go.Proofs.YtbamklefagghcaaGreatDoor
open Go.RowKit Go.PK
set_option linter.unusedVariables false
set_option linter.unusedSimpArgs false

end Go.Proofs.YtbamklefagghcaaGreatDoor

namespace Go.Proofs.YtbamklefagghcaaGreatDoor
open Go.RowKit Go.PK
set_option linter.unusedVariables false
set_option linter.unusedSimpArgs false

structure LD (w : World) : Prop where
  tab : Lib.TabIs Tryz.prog w "internal/strconv.uint64pow10" .u64 Lib.pow10Tab
  cel : ∃ m, w.cell? ⟨2, 0, none⟩ = some (.int .i64 m)
  syn : ∃ tp p, w.var? Tryz.prog "strconv.ErrSyntax" = some #[.iface tp p]
  rng : ∃ tp p, w.var? Tryz.prog "strconv.ErrRange" = some #[.iface tp p]
theorem LD.later {w w' : World} (h : LD w) (hl : Later w w') : LD w' := by
  obtain ⟨h1, ⟨m, h2⟩, ⟨t1, p1, h3⟩, ⟨t2, p2, h4⟩⟩ := h
  exact ⟨Joins.tab_stays (g := Tryz.prog.globalNamed "internal/strconv.uint64pow10" |>.getD 0) (by kernel_rfl) h1 hl (Nat.le_refl _), ⟨m, by rw [cell_keep (hl.block 2 (cell_lt (p := ⟨2, 0, none⟩) h2))]; exact h2⟩, ⟨t1, p1, Joins.var_stays (g := Tryz.prog.globalNamed "strconv.ErrSyntax" |>.getD 0) (by kernel_rfl) h3 hl (Nat.le_refl _)⟩, ⟨t2, p2, Joins.var_stays (g := Tryz.prog.globalNamed "strconv.ErrRange" |>.getD 0) (by kernel_rfl) h4 hl (Nat.le_refl _)⟩⟩
theorem c_Itoa (n : Int) (w : World) (hn : in64 n) (hL : LD w) :
    Calls Tryz.prog 61 #[.int .i64 n] w fun e w' => e = .returned (.string (itoaS n)) ∧ Later w w' :=
  (Tryz.strconv_Itoa n hn.1 hn.2 w hL.tab).mono fun e w' ⟨h1, k, os, h2⟩ => ⟨h1, by rw [h2]; exact later_grow w k os⟩
theorem c_Split (s : ByteArray) (w : World) (hs : s.size ≤ 2000000000) (hL : LD w) :
    Calls Tryz.prog 60 #[.string s, .string colon] w fun e w' => ∃ v, e = .returned v ∧ Later w w' ∧ sliceRd tyStr (fun b => w.heap.size ≤ b) w' v (splitC s) := by
  obtain ⟨m, hm⟩ := hL.cel
  refine (Tryz.strings_Split s colon m w (by omega) hm (by decide)).mono fun e w' ⟨h1, h2⟩ => ⟨_, h1, ?_, ?_⟩
  · rw [h2]; exact later_alloc w _
  · have h2 : w' = w.alloc (.cells ((splitC s).map Value.string).toArray 9) := h2
    subst h2
    have hl := splitC_len s
    rw [← hl]
    have hg : (w.alloc (.cells ((splitC s).map Value.string).toArray 9)).heap[w.heap.size]? = some (.cells ((splitC s).map Value.string).toArray 9 (0, 0)) := alloc_at w _
    have hcn : (splitC s).length ≤ 9223372036854775807 := by rw [hl]; have := Lib.countB_le colon (by decide) s.size s (Nat.le_refl _); omega
    refine ⟨_, _, rfl, Nat.le_refl _, hcn, fun h => ⟨w.heap.size, 0, rfl, Nat.le_refl _, heap_lt hg, fun j hj => ⟨_, fun i hi => ?_, rfl, splitC_ok (by unfold okS; omega) _ (List.getElem_mem hj)⟩⟩⟩
    have hi : i = 0 := by simpa using hi
    subst hi
    rw [Nat.zero_add, Nat.add_zero, show tyStr.size = 1 from rfl, Nat.mul_one, cell_of_row _ w.heap.size _ _ 9 (0, 0) hg, List.getElem?_toArray]
    simp [hj]

end Go.Proofs.YtbamklefagghcaaGreatDoor

namespace Go.Proofs.YtbamklefagghcaaGreatDoor
open Go.RowKit Go.PK
set_option linter.unusedVariables false
set_option linter.unusedSimpArgs false
set_option maxRecDepth 100000 in
theorem c_number (n : Int) (w : World) (hn : in64 n) (hL : LD w) :
    Calls Tryz.prog 32 #[.int .i64 n] w fun e w' => e = .returned (.string (itoaS n)) ∧ Later w w' := by
  refine enter (vs := [.int .i64 n]) Tryz.func32 rfl Tryz.ntmps32 rfl ?_
  refine w_seq ?_
  refine rg_text ?_
  refine x_val rfl rfl rfl (v_assign rfl) ?_
  refine x_end ?_
  refine t_norm ?_
  refine w_seq ?_
  refine rg_text ?_
  refine x_val rfl rfl rfl (v_move rfl) ?_
  refine x_callv rfl rfl rfl Tryz.func61 (by kernel_rfl) rfl (fun w1 hw1 => c_Itoa n w1 hn (hL.later (hw1.base (by simp)))) ?_
  refine x_val rfl rfl rfl (v_assign rfl) ?_
  refine x_end ?_
  refine t_norm ?_
  refine w_ret ?_
  refine ret1 rfl rfl (fun w' hm => ⟨?_, hm.base (by simp)⟩)
  rfl
set_option maxRecDepth 100000 in
theorem c_article (s n : Int) (w : World) (hs : in64 s) (hn : in64 n) (hL : LD w) :
    Calls Tryz.prog 33 #[.agg #[.int .i64 s, .int .i64 n]] w fun e w' => e = .returned (.string (artS s n)) ∧ Later w w' := by
  have z1 := itoaS_size hs
  have z2 := itoaS_size hn
  refine enter (vs := [.agg #[.int .i64 s, .int .i64 n]]) Tryz.func33 rfl Tryz.ntmps33 rfl ?_
  refine w_seq ?_
  refine rg_text ?_
  refine x_box rfl rfl rfl rfl ?_
  intro p1
  refine x_val rfl rfl rfl (v_assign rfl) ?_
  refine x_end ?_
  refine t_norm ?_
  refine w_seq ?_
  refine rg_draw 10 [(true, 0), (true, 1), (true, 2), (true, 3), (true, 4), (true, 5), (true, 6), (true, 7), (true, 8), (true, 9)] (by kernel_rfl) (by kernel_rfl) ?_
  refine x_val rfl rfl rfl (v_fieldAddr (off' := 0) Tryz.underlying23 rfl sz3 (by decide) rfl rfl) ?_
  refine x_val rfl rfl rfl (v_load Tryz.underlying3 rfl rfl (at_ownL (vs := [Value.int .i64 s, .int .i64 n]) (.head _) rfl)) ?_
  refine x_callv rfl rfl rfl Tryz.func32 (by kernel_rfl) rfl (fun w1 hw1 => c_number s w1 hs (hL.later (hw1.base (by simp)))) ?_
  refine x_val rfl rfl rfl (v_sadd rfl rfl (by show (itoaS s).size + 1 ≤ _; omega)) ?_
  refine x_val rfl rfl rfl (v_fieldAddr (off' := 1) Tryz.underlying23 rfl sz3 (by decide) rfl rfl) ?_
  refine x_val rfl rfl rfl (v_load Tryz.underlying3 rfl rfl (at_ownL (vs := [Value.int .i64 s, .int .i64 n]) (.head _) rfl)) ?_
  refine x_callv rfl rfl rfl Tryz.func32 (by kernel_rfl) rfl (fun w1 hw1 => c_number n w1 hn (hL.later (hw1.base (by simp)))) ?_
  refine x_val rfl rfl rfl (v_sadd rfl rfl (by rw [ByteArray.size_append]; show (itoaS s).size + 1 + (itoaS n).size ≤ _; omega)) ?_
  refine x_val rfl rfl rfl (v_sadd rfl rfl (by rw [ByteArray.size_append, ByteArray.size_append]; show (itoaS s).size + 1 + (itoaS n).size + 4 ≤ _; omega)) ?_
  refine x_val rfl rfl rfl (v_assign rfl) ?_
  refine x_end ?_
  refine t_norm ?_
  refine w_ret ?_
  refine ret1 rfl rfl (fun w' hm => ⟨?_, hm.base (by simp)⟩)
  rfl
set_option maxRecDepth 100000 in
theorem c_wi1 (n a b : Int) (p q : Nat) (w : World) (hp : w.cell? ⟨p, 0, none⟩ = some (.int .i64 a)) (hq : w.cell? ⟨q, 0, none⟩ = some (.int .i64 b)) :
    Calls Tryz.prog 69 #[.int .i64 n, .pointer (some ⟨p, 0, none⟩), .pointer (some ⟨q, 0, none⟩)] w fun e w' => e = .returned (.bool (decide (n < a) || decide (n > b))) ∧ Later w w' := by
  refine enter (vs := [.int .i64 n, .pointer (some ⟨p, 0, none⟩), .pointer (some ⟨q, 0, none⟩)]) Tryz.func69 rfl Tryz.ntmps69 rfl ?_
  refine w_seq ?_
  refine rg_text ?_
  refine x_val rfl rfl rfl (v_assign rfl) ?_
  refine x_end ?_
  refine t_norm ?_
  refine w_seq ?_
  refine rg_text ?_
  refine x_val rfl rfl rfl (v_move rfl) ?_
  refine x_val rfl rfl rfl (v_load Tryz.underlying3 rfl rfl (at_ro (.head _) trivial hp)) ?_
  refine x_bool rfl rfl rfl (v_lss rfl rfl) ?_
  intro b7 hb7
  refine x_val rfl rfl rfl (v_move rfl) ?_
  refine x_if [] rfl rfl rfl rfl rfl (fun hg => by obtain ⟨hg0, _⟩ := hg; subst hg0; (try simp only [List.cons_append, List.nil_append, gvl_nil, gvl_t, gvl_f]); exact v_move rfl) ?_
  refine x_if [] rfl rfl rfl rfl rfl (fun hg => by obtain ⟨hg0, _⟩ := hg; subst hg0; (try simp only [List.cons_append, List.nil_append, gvl_nil, gvl_t, gvl_f]); exact v_load Tryz.underlying3 rfl rfl (at_ro (.head _) trivial hq)) ?_
  refine x_ifb [] rfl rfl rfl rfl rfl (fun hg => by obtain ⟨hg0, _⟩ := hg; subst hg0; (try simp only [List.cons_append, List.nil_append, gvl_nil, gvl_t, gvl_f]); exact v_gtr rfl rfl) ?_
  intro b11 hb11
  refine x_bool rfl rfl rfl (v_or rfl rfl) ?_
  intro b12 hb12
  refine x_val rfl rfl rfl (v_assign rfl) ?_
  refine x_end ?_
  refine t_norm ?_
  refine w_ret ?_
  refine ret1 rfl rfl (fun w' hm => ⟨?_, hm.base (by simp)⟩)
  rw [hb12, hb11, hb7]
theorem calls_cl2 {P : Program} {f : FuncId} {v p q : Value} {w : World} {Q : Ending → World → Prop} (h : Calls P f #[v, p, q] w Q) : Calls P f (#[v] ++ #[p, q]) w Q := by simpa using h
set_option maxRecDepth 100000 in
theorem c_IFI {v : Value} {xs : List Int} {D : Nat → Prop} (a b : Int) (p q : Nat) (w : World) (hxs : sliceRd tyI D w v xs) (hp : w.cell? ⟨p, 0, none⟩ = some (.int .i64 a)) (hq : w.cell? ⟨q, 0, none⟩ = some (.int .i64 b)) :
    Calls Tryz.prog 86 #[v, .func (.func 69) #[] #[.pointer (some ⟨p, 0, none⟩), .pointer (some ⟨q, 0, none⟩)]] w fun e w' => e = .returned (.int .i64 (fidx (fun n => decide (n < a) || decide (n > b)) xs)) ∧ Later w w' := by
  obtain ⟨A, cp, rfl, hlc, hmx, hA⟩ := id hxs
  refine enter (vs := [.slice A xs.length cp, .func (.func 69) #[] #[.pointer (some ⟨p, 0, none⟩), .pointer (some ⟨q, 0, none⟩)]]) Tryz.func86 rfl Tryz.ntmps86 rfl ?_
  refine w_seq ?_
  refine rg_text ?_
  refine x_val rfl rfl rfl (v_assign rfl) ?_
  refine x_end ?_
  refine t_norm ?_
  refine w_seq ?_
  refine w_seq ?_
  refine rg_text ?_
  refine x_val rfl rfl rfl (v_move rfl) ?_
  refine x_val rfl rfl rfl (v_len_slice Tryz.underlying113 rfl) ?_
  refine x_val rfl rfl rfl (v_move rfl) ?_
  refine x_end ?_
  refine t_norm ?_
  refine w_block ?_
  refine w_loop (σ := Nat) (fun k => k ≤ xs.length ∧ ∀ j (h : j < xs.length), j < k → (fun n => decide (n < a) || decide (n > b)) xs[j] = false) (fun k => [(0, .slice A xs.length cp), (1, .func (.func 69) #[] #[.pointer (some ⟨p, 0, none⟩), .pointer (some ⟨q, 0, none⟩)]), (7, Value.int .i64 xs.length), (8, Value.int .i64 (k : Nat))]) (fun k => []) (fun k => [(w, fun _ => True)]) (fun k => xs.length - k) (0) (⟨Nat.zero_le _, by intros; omega⟩) (l_start (by repeat (first | exact Sub.nil | refine Sub.cons rfl ?_)) (fun _ h => h)) ?_
  rintro k ⟨hk, hno⟩
  refine w_state ([(0, .slice A xs.length cp), (1, .func (.func 69) #[] #[.pointer (some ⟨p, 0, none⟩), .pointer (some ⟨q, 0, none⟩)]), (7, Value.int .i64 xs.length), (8, Value.int .i64 (k : Nat))]) ([]) ([(w, fun _ => True)]) ?_
  refine w_seq ?_
  refine rg_text ?_
  refine x_bool rfl rfl rfl (v_lss rfl rfl) ?_
  intro b9 hb9
  refine x_end ?_
  refine t_norm ?_
  refine w_seq ?_
  refine w_cond rfl (fun hc9 => ?_) (fun hc9 => ?_)
  · simp only [hb9, decide_eq_true_eq, decide_eq_false_iff_not, Bool.and_eq_true, Bool.or_eq_true, Bool.and_eq_false_iff, Bool.or_eq_false_iff, Bool.not_eq_true', Bool.not_eq_false', ne_eq, Decidable.not_not] at hc9
    have hkl : k < xs.length := by omega
    obtain ⟨b0, o0, hA0, hD0, hc0, _⟩ := int_at hxs hkl
    refine w_skip ?_
    refine t_norm ?_
    refine w_seq ?_
    refine w_block ?_
    refine w_seq ?_
    refine rg_text ?_
    refine x_val rfl rfl rfl (v_move rfl) ?_
    refine x_val rfl rfl rfl (v_assign rfl) ?_
    refine x_end ?_
    refine t_norm ?_
    refine w_seq ?_
    refine rg_text ?_
    refine x_val rfl rfl rfl (v_move rfl) ?_
    refine x_val rfl rfl rfl (v_move rfl) ?_
    refine x_val rfl rfl rfl (v_move rfl) ?_
    refine x_val rfl rfl rfl (v_indexAddr Tryz.underlying113 sz3 (congrArg (fun A => some (Value.slice A xs.length cp)) hA0) rfl (by first | omega | (dsimp only; omega)) rfl) ?_
    refine x_val rfl rfl rfl (v_load Tryz.underlying3 rfl rfl (at_ro (.head _) trivial (by rw [Nat.mul_one]; exact hc0))) ?_
    refine x_clb rfl rfl rfl rfl Tryz.func69 (by kernel_rfl) rfl (fun w1 hw1 => calls_cl2 (c_wi1 xs[k] a b p q w1 (by rw [cell_keep ((hw1.base (by simp)).block _ (cell_lt hp))]; exact hp) (by rw [cell_keep ((hw1.base (by simp)).block _ (cell_lt hq))]; exact hq))) ?_
    intro b16 hb16
    refine x_end ?_
    refine t_norm ?_
    refine w_cond rfl (fun hc16 => ?_) (fun hc16 => ?_)
    · have hb : (fun n => decide (n < a) || decide (n > b)) xs[k] = true := hb16.symm.trans hc16
      refine w_seq ?_
      refine rg_text ?_
      refine x_val rfl rfl rfl (v_move rfl) ?_
      refine x_val rfl rfl rfl (v_assign rfl) ?_
      refine x_end ?_
      refine t_norm ?_
      refine w_ret ?_
      refine b_ret ?_
      refine t_ret ?_
      refine t_ret ?_
      refine b_ret ?_
      refine t_ret ?_
      refine ret1 rfl rfl (fun w' hm => ⟨?_, hm.base (by simp)⟩)
      rw [fidx_at hkl hb hno]
    · have hb : (fun n => decide (n < a) || decide (n > b)) xs[k] = false := hb16.symm.trans hc16
      refine w_skip ?_
      refine b_norm ?_
      refine t_norm ?_
      refine rg_text ?_
      refine x_val rfl rfl rfl (v_addi rfl rfl rfl (by first | omega | (dsimp only; omega))) ?_
      refine x_val rfl rfl rfl (v_move rfl) ?_
      refine x_end ?_
      exact l_norm (k + 1) ⟨by omega, fun j h hjk => by rcases Nat.lt_succ_iff_lt_or_eq.1 hjk with h2 | rfl; (· exact hno j h h2); exact hb⟩ (by omega) (by repeat (first | exact Sub.nil | refine Sub.cons rfl ?_)) (fun _ h => h)
  · simp only [hb9, decide_eq_true_eq, decide_eq_false_iff_not, Bool.and_eq_true, Bool.or_eq_true, Bool.and_eq_false_iff, Bool.or_eq_false_iff, Bool.not_eq_true', Bool.not_eq_false', ne_eq, Decidable.not_not] at hc9
    refine w_exit ?_
    refine t_exit ?_
    refine t_exit ?_
    refine b_hit ?_
    refine t_norm ?_
    refine w_seq ?_
    refine rg_text ?_
    refine x_val rfl rfl rfl (v_assign rfl) ?_
    refine x_end ?_
    refine t_norm ?_
    refine w_ret ?_
    refine ret1 rfl rfl (fun w' hm => ⟨?_, hm.base (by simp)⟩)
    rw [fidx_none (fun j h => hno j h (by omega))]
set_option maxRecDepth 100000 in
theorem c_CFI {v : Value} {xs : List Int} {D : Nat → Prop} (a b : Int) (p q : Nat) (w : World) (hxs : sliceRd tyI D w v xs) (hp : w.cell? ⟨p, 0, none⟩ = some (.int .i64 a)) (hq : w.cell? ⟨q, 0, none⟩ = some (.int .i64 b)) :
    Calls Tryz.prog 68 #[v, .func (.func 69) #[] #[.pointer (some ⟨p, 0, none⟩), .pointer (some ⟨q, 0, none⟩)]] w fun e w' => e = .returned (.bool (xs.any (fun n => decide (n < a) || decide (n > b)))) ∧ Later w w' := by
  refine enter (vs := [v, .func (.func 69) #[] #[.pointer (some ⟨p, 0, none⟩), .pointer (some ⟨q, 0, none⟩)]]) Tryz.func68 rfl Tryz.ntmps68 rfl ?_
  refine w_seq ?_
  refine rg_text ?_
  refine x_val rfl rfl rfl (v_assign rfl) ?_
  refine x_end ?_
  refine t_norm ?_
  refine w_seq ?_
  refine rg_text ?_
  refine x_val rfl rfl rfl (v_move rfl) ?_
  refine x_val rfl rfl rfl (v_move rfl) ?_
  refine x_callv rfl rfl rfl Tryz.func86 (by kernel_rfl) rfl (fun w1 hw1 => c_IFI a b p q w1 (hxs.keep (Kept.later (hw1.base (by simp)))) (by rw [cell_keep ((hw1.base (by simp)).block _ (cell_lt hp))]; exact hp) (by rw [cell_keep ((hw1.base (by simp)).block _ (cell_lt hq))]; exact hq)) ?_
  refine x_bool rfl rfl rfl (v_geq rfl rfl) ?_
  intro b8 hb8
  refine x_val rfl rfl rfl (v_assign rfl) ?_
  refine x_end ?_
  refine t_norm ?_
  refine w_ret ?_
  refine ret1 rfl rfl (fun w' hm => ⟨?_, hm.base (by simp)⟩)
  rw [hb8, Bool.eq_iff_iff.2 (decide_eq_true_iff.trans (fidx_nn _ xs))]
set_option maxRecDepth 100000 in
theorem c_within {v : Value} {xs : List Int} {D : Nat → Prop} (a b : Int) (w : World) (hxs : sliceRd tyI D w v xs) :
    Calls Tryz.prog 43 #[.int .i64 a, .int .i64 b, v] w fun e w' => e = .returned (.bool (wi a b xs)) ∧ Later w w' := by
  refine enter (vs := [.int .i64 a, .int .i64 b, v]) Tryz.func43 rfl Tryz.ntmps43 rfl ?_
  refine w_seq ?_
  refine rg_text ?_
  refine x_box rfl rfl rfl rfl ?_
  intro p3
  refine x_box rfl rfl rfl rfl ?_
  intro p4
  refine x_val rfl rfl rfl (v_assign rfl) ?_
  refine x_end ?_
  refine t_norm ?_
  refine w_seq ?_
  refine rg_text ?_
  refine x_val rfl rfl rfl (v_move rfl) ?_
  refine x_val rfl rfl rfl (v_func rfl) ?_
  refine x_callb rfl rfl rfl Tryz.func68 (by kernel_rfl) rfl (fun w1 hw1 => c_CFI a b p3 p4 w1 (hxs.keep (Kept.later (hw1.base (by simp)))) (by rw [cell_of_row w1 p3 _ _ 3 (0, 0) (hw1.own_at (p3, _) (.tail _ (.head _)))]; rfl) (by rw [cell_of_row w1 p4 _ _ 3 (0, 0) (hw1.own_at (p4, _) (.head _))]; rfl)) ?_
  intro b9 hb9
  refine x_bool rfl rfl rfl (v_not rfl) ?_
  intro b10 hb10
  refine x_val rfl rfl rfl (v_assign rfl) ?_
  refine x_end ?_
  refine t_norm ?_
  refine w_ret ?_
  refine ret1 rfl rfl (fun w' hm => ⟨?_, hm.base (by simp)⟩)
  rw [hb10, hb9]; rfl
set_option maxRecDepth 100000 in
theorem c_wrA (o : Ord) (w : World) (hok : o.ok) (h1 : wi 1 999999999 [o.id, o.fund] = false) :
    Calls Tryz.prog 30 #[.agg o.cells.toArray] w fun e w' => e = .returned (.bool (writB o)) ∧ Later w w' := by
  have hok1 : in64 o.id ∧ in64 o.fund := ⟨hok.1, hok.2.1⟩
  have hok2 : in64 o.src ∧ in64 o.num ∧ in64 o.price := ⟨hok.2.2.1, hok.2.2.2.1, hok.2.2.2.2.2⟩
  have hok3 : in64 o.copies := hok.2.2.2.2.1
  refine enter (vs := [.agg o.cells.toArray]) Tryz.func30 rfl Tryz.ntmps30 rfl ?_
  refine w_seq ?_
  refine rg_text ?_
  refine x_box rfl rfl rfl rfl ?_
  intro p1
  refine x_val rfl rfl rfl (v_assign rfl) ?_
  refine x_end ?_
  refine t_norm ?_
  refine w_seq ?_
  refine rg_text ?_
  refine x_val rfl rfl rfl (v_fieldAddr (off' := 0) Tryz.underlying25 rfl sz3 (by decide) rfl rfl) ?_
  refine x_val rfl rfl rfl (v_load Tryz.underlying3 rfl rfl (at_ownL (vs := o.cells) (by repeat (first | exact List.Mem.head _ | apply List.Mem.tail)) rfl)) ?_
  refine x_val rfl rfl rfl (v_fieldAddr (off' := 1) Tryz.underlying25 rfl sz3 (by decide) rfl rfl) ?_
  refine x_val rfl rfl rfl (v_load Tryz.underlying3 rfl rfl (at_ownL (vs := o.cells) (by repeat (first | exact List.Mem.head _ | apply List.Mem.tail)) rfl)) ?_
  refine x_buildSliceL (cs := [Value.int .i64 o.id, .int .i64 o.fund]) rfl rfl rfl Tryz.underlying113 sz3 zr3 rfl rfl rfl ?_
  intro p7
  refine x_callb rfl rfl rfl Tryz.func43 (by kernel_rfl) rfl (fun w1 hw1 => c_within 1 999999999 w1 (rowI_rd (D := fun _ => True) (e := 3) (r := some (p7, [Value.int .i64 o.id, Value.int .i64 o.fund], 2)) (n := 2) (ds := [o.id, o.fund]) (rowOK_lit rfl (by decide)) rfl (by simpa using hok1) hw1 (fun q hq => by rw [List.mem_singleton.1 hq]; exact .head _) (fun _ _ => trivial))) ?_
  intro b8 hb8
  obtain rfl : b8 = false := hb8.trans h1
  refine x_val rfl rfl rfl (v_move rfl) ?_
  refine x_no rfl rfl rfl rfl rfl ?_
  refine x_no rfl rfl rfl rfl rfl ?_
  refine x_no rfl rfl rfl rfl rfl ?_
  refine x_no rfl rfl rfl rfl rfl ?_
  refine x_no rfl rfl rfl rfl rfl ?_
  refine x_no rfl rfl rfl rfl rfl ?_
  refine x_no rfl rfl rfl rfl rfl ?_
  refine x_no rfl rfl rfl rfl rfl ?_
  refine x_no rfl rfl rfl rfl rfl ?_
  refine x_no rfl rfl rfl rfl rfl ?_
  refine x_val (v := .bool false) rfl rfl rfl (v_pick (b := false) rfl rfl) ?_
  refine x_val rfl rfl rfl (v_move rfl) ?_
  refine x_no rfl rfl rfl rfl rfl ?_
  refine x_no rfl rfl rfl rfl rfl ?_
  refine x_no rfl rfl rfl rfl rfl ?_
  refine x_no rfl rfl rfl rfl rfl ?_
  refine x_val (v := .bool false) rfl rfl rfl (v_pick (b := false) rfl rfl) ?_
  refine x_val rfl rfl rfl (v_assign rfl) ?_
  refine x_end ?_
  refine t_norm ?_
  refine w_ret ?_
  refine ret1 rfl rfl (fun w' hm => ⟨?_, hm.base (by simp)⟩)
  unfold writB; rw [h1]; rfl
set_option maxRecDepth 100000 in
theorem c_wrB (o : Ord) (w : World) (hok : o.ok) (h1 : wi 1 999999999 [o.id, o.fund] = true) (h2 : wi 0 999999999 [o.src, o.num, o.price] = false) :
    Calls Tryz.prog 30 #[.agg o.cells.toArray] w fun e w' => e = .returned (.bool (writB o)) ∧ Later w w' := by
  have hok1 : in64 o.id ∧ in64 o.fund := ⟨hok.1, hok.2.1⟩
  have hok2 : in64 o.src ∧ in64 o.num ∧ in64 o.price := ⟨hok.2.2.1, hok.2.2.2.1, hok.2.2.2.2.2⟩
  have hok3 : in64 o.copies := hok.2.2.2.2.1
  refine enter (vs := [.agg o.cells.toArray]) Tryz.func30 rfl Tryz.ntmps30 rfl ?_
  refine w_seq ?_
  refine rg_text ?_
  refine x_box rfl rfl rfl rfl ?_
  intro p1
  refine x_val rfl rfl rfl (v_assign rfl) ?_
  refine x_end ?_
  refine t_norm ?_
  refine w_seq ?_
  refine rg_text ?_
  refine x_val rfl rfl rfl (v_fieldAddr (off' := 0) Tryz.underlying25 rfl sz3 (by decide) rfl rfl) ?_
  refine x_val rfl rfl rfl (v_load Tryz.underlying3 rfl rfl (at_ownL (vs := o.cells) (by repeat (first | exact List.Mem.head _ | apply List.Mem.tail)) rfl)) ?_
  refine x_val rfl rfl rfl (v_fieldAddr (off' := 1) Tryz.underlying25 rfl sz3 (by decide) rfl rfl) ?_
  refine x_val rfl rfl rfl (v_load Tryz.underlying3 rfl rfl (at_ownL (vs := o.cells) (by repeat (first | exact List.Mem.head _ | apply List.Mem.tail)) rfl)) ?_
  refine x_buildSliceL (cs := [Value.int .i64 o.id, .int .i64 o.fund]) rfl rfl rfl Tryz.underlying113 sz3 zr3 rfl rfl rfl ?_
  intro p7
  refine x_callb rfl rfl rfl Tryz.func43 (by kernel_rfl) rfl (fun w1 hw1 => c_within 1 999999999 w1 (rowI_rd (D := fun _ => True) (e := 3) (r := some (p7, [Value.int .i64 o.id, Value.int .i64 o.fund], 2)) (n := 2) (ds := [o.id, o.fund]) (rowOK_lit rfl (by decide)) rfl (by simpa using hok1) hw1 (fun q hq => by rw [List.mem_singleton.1 hq]; exact .head _) (fun _ _ => trivial))) ?_
  intro b8 hb8
  obtain rfl : b8 = true := hb8.trans h1
  refine x_val rfl rfl rfl (v_move rfl) ?_
  refine x_if [] rfl rfl rfl rfl rfl (fun hg => by obtain ⟨hg0, _⟩ := hg; (try simp only [List.cons_append, List.nil_append, gvl_nil, gvl_t, gvl_f]); exact v_fieldAddr (off' := 2) Tryz.underlying25 rfl sz23 (by decide) rfl rfl) ?_
  refine x_if [] rfl rfl rfl rfl rfl (fun hg => by obtain ⟨hg0, _⟩ := hg; (try simp only [List.cons_append, List.nil_append, gvl_nil, gvl_t, gvl_f]); exact v_fieldAddr (off' := 2) Tryz.underlying23 rfl sz3 (by decide) rfl rfl) ?_
  refine x_if [] rfl rfl rfl rfl rfl (fun hg => by obtain ⟨hg0, _⟩ := hg; (try simp only [List.cons_append, List.nil_append, gvl_nil, gvl_t, gvl_f]); exact v_load Tryz.underlying3 rfl rfl (at_ownL (vs := o.cells) (by repeat (first | exact List.Mem.head _ | apply List.Mem.tail)) rfl)) ?_
  refine x_if [] rfl rfl rfl rfl rfl (fun hg => by obtain ⟨hg0, _⟩ := hg; (try simp only [List.cons_append, List.nil_append, gvl_nil, gvl_t, gvl_f]); exact v_fieldAddr (off' := 2) Tryz.underlying25 rfl sz23 (by decide) rfl rfl) ?_
  refine x_if [] rfl rfl rfl rfl rfl (fun hg => by obtain ⟨hg0, _⟩ := hg; (try simp only [List.cons_append, List.nil_append, gvl_nil, gvl_t, gvl_f]); exact v_fieldAddr (off' := 3) Tryz.underlying23 rfl sz3 (by decide) rfl rfl) ?_
  refine x_if [] rfl rfl rfl rfl rfl (fun hg => by obtain ⟨hg0, _⟩ := hg; (try simp only [List.cons_append, List.nil_append, gvl_nil, gvl_t, gvl_f]); exact v_load Tryz.underlying3 rfl rfl (at_ownL (vs := o.cells) (by repeat (first | exact List.Mem.head _ | apply List.Mem.tail)) rfl)) ?_
  refine x_if [] rfl rfl rfl rfl rfl (fun hg => by obtain ⟨hg0, _⟩ := hg; (try simp only [List.cons_append, List.nil_append, gvl_nil, gvl_t, gvl_f]); exact v_fieldAddr (off' := 5) Tryz.underlying25 rfl sz3 (by decide) rfl rfl) ?_
  refine x_if [] rfl rfl rfl rfl rfl (fun hg => by obtain ⟨hg0, _⟩ := hg; (try simp only [List.cons_append, List.nil_append, gvl_nil, gvl_t, gvl_f]); exact v_load Tryz.underlying3 rfl rfl (at_ownL (vs := o.cells) (by repeat (first | exact List.Mem.head _ | apply List.Mem.tail)) rfl)) ?_
  refine x_buildSlice_g (cs := [Value.int .i64 o.src, .int .i64 o.num, .int .i64 o.price]) rfl rfl rfl rfl rfl Tryz.underlying113 sz3 zr3 rfl rfl rfl ?_
  intro p18
  refine x_call_ifb [] rfl rfl rfl rfl rfl Tryz.func43 (by kernel_rfl) (fun hg => by obtain ⟨hg0, _⟩ := hg; (try simp only [List.cons_append, List.nil_append, gvl_nil, gvl_t, gvl_f]); refine ⟨_, rfl, ?_⟩; exact fun w1 hw1 => c_within 0 999999999 w1 (rowI_rd (D := fun _ => True) (e := 3) (r := some (p18, [Value.int .i64 o.src, Value.int .i64 o.num, Value.int .i64 o.price], 3)) (n := 3) (ds := [o.src, o.num, o.price]) (rowOK_lit rfl (by decide)) rfl (by simpa using hok2) hw1 (fun q hq => by rw [List.mem_singleton.1 hq]; exact .head _) (fun _ _ => trivial))) ?_
  intro b19 hb19
  obtain rfl : b19 = false := hb19.trans h2
  refine x_val (v := .bool false) rfl rfl rfl (v_pick (b := true) rfl rfl) ?_
  refine x_val rfl rfl rfl (v_move rfl) ?_
  refine x_no rfl rfl rfl rfl rfl ?_
  refine x_no rfl rfl rfl rfl rfl ?_
  refine x_no rfl rfl rfl rfl rfl ?_
  refine x_no rfl rfl rfl rfl rfl ?_
  refine x_val (v := .bool false) rfl rfl rfl (v_pick (b := false) rfl rfl) ?_
  refine x_val rfl rfl rfl (v_assign rfl) ?_
  refine x_end ?_
  refine t_norm ?_
  refine w_ret ?_
  refine ret1 rfl rfl (fun w' hm => ⟨?_, hm.base (by simp)⟩)
  unfold writB; rw [h1, h2]; rfl
set_option maxRecDepth 100000 in
theorem c_wrC (o : Ord) (w : World) (hok : o.ok) (h1 : wi 1 999999999 [o.id, o.fund] = true) (h2 : wi 0 999999999 [o.src, o.num, o.price] = true) :
    Calls Tryz.prog 30 #[.agg o.cells.toArray] w fun e w' => e = .returned (.bool (writB o)) ∧ Later w w' := by
  have hok1 : in64 o.id ∧ in64 o.fund := ⟨hok.1, hok.2.1⟩
  have hok2 : in64 o.src ∧ in64 o.num ∧ in64 o.price := ⟨hok.2.2.1, hok.2.2.2.1, hok.2.2.2.2.2⟩
  have hok3 : in64 o.copies := hok.2.2.2.2.1
  refine enter (vs := [.agg o.cells.toArray]) Tryz.func30 rfl Tryz.ntmps30 rfl ?_
  refine w_seq ?_
  refine rg_text ?_
  refine x_box rfl rfl rfl rfl ?_
  intro p1
  refine x_val rfl rfl rfl (v_assign rfl) ?_
  refine x_end ?_
  refine t_norm ?_
  refine w_seq ?_
  refine rg_text ?_
  refine x_val rfl rfl rfl (v_fieldAddr (off' := 0) Tryz.underlying25 rfl sz3 (by decide) rfl rfl) ?_
  refine x_val rfl rfl rfl (v_load Tryz.underlying3 rfl rfl (at_ownL (vs := o.cells) (by repeat (first | exact List.Mem.head _ | apply List.Mem.tail)) rfl)) ?_
  refine x_val rfl rfl rfl (v_fieldAddr (off' := 1) Tryz.underlying25 rfl sz3 (by decide) rfl rfl) ?_
  refine x_val rfl rfl rfl (v_load Tryz.underlying3 rfl rfl (at_ownL (vs := o.cells) (by repeat (first | exact List.Mem.head _ | apply List.Mem.tail)) rfl)) ?_
  refine x_buildSliceL (cs := [Value.int .i64 o.id, .int .i64 o.fund]) rfl rfl rfl Tryz.underlying113 sz3 zr3 rfl rfl rfl ?_
  intro p7
  refine x_callb rfl rfl rfl Tryz.func43 (by kernel_rfl) rfl (fun w1 hw1 => c_within 1 999999999 w1 (rowI_rd (D := fun _ => True) (e := 3) (r := some (p7, [Value.int .i64 o.id, Value.int .i64 o.fund], 2)) (n := 2) (ds := [o.id, o.fund]) (rowOK_lit rfl (by decide)) rfl (by simpa using hok1) hw1 (fun q hq => by rw [List.mem_singleton.1 hq]; exact .head _) (fun _ _ => trivial))) ?_
  intro b8 hb8
  obtain rfl : b8 = true := hb8.trans h1
  refine x_val rfl rfl rfl (v_move rfl) ?_
  refine x_if [] rfl rfl rfl rfl rfl (fun hg => by obtain ⟨hg0, _⟩ := hg; (try simp only [List.cons_append, List.nil_append, gvl_nil, gvl_t, gvl_f]); exact v_fieldAddr (off' := 2) Tryz.underlying25 rfl sz23 (by decide) rfl rfl) ?_
  refine x_if [] rfl rfl rfl rfl rfl (fun hg => by obtain ⟨hg0, _⟩ := hg; (try simp only [List.cons_append, List.nil_append, gvl_nil, gvl_t, gvl_f]); exact v_fieldAddr (off' := 2) Tryz.underlying23 rfl sz3 (by decide) rfl rfl) ?_
  refine x_if [] rfl rfl rfl rfl rfl (fun hg => by obtain ⟨hg0, _⟩ := hg; (try simp only [List.cons_append, List.nil_append, gvl_nil, gvl_t, gvl_f]); exact v_load Tryz.underlying3 rfl rfl (at_ownL (vs := o.cells) (by repeat (first | exact List.Mem.head _ | apply List.Mem.tail)) rfl)) ?_
  refine x_if [] rfl rfl rfl rfl rfl (fun hg => by obtain ⟨hg0, _⟩ := hg; (try simp only [List.cons_append, List.nil_append, gvl_nil, gvl_t, gvl_f]); exact v_fieldAddr (off' := 2) Tryz.underlying25 rfl sz23 (by decide) rfl rfl) ?_
  refine x_if [] rfl rfl rfl rfl rfl (fun hg => by obtain ⟨hg0, _⟩ := hg; (try simp only [List.cons_append, List.nil_append, gvl_nil, gvl_t, gvl_f]); exact v_fieldAddr (off' := 3) Tryz.underlying23 rfl sz3 (by decide) rfl rfl) ?_
  refine x_if [] rfl rfl rfl rfl rfl (fun hg => by obtain ⟨hg0, _⟩ := hg; (try simp only [List.cons_append, List.nil_append, gvl_nil, gvl_t, gvl_f]); exact v_load Tryz.underlying3 rfl rfl (at_ownL (vs := o.cells) (by repeat (first | exact List.Mem.head _ | apply List.Mem.tail)) rfl)) ?_
  refine x_if [] rfl rfl rfl rfl rfl (fun hg => by obtain ⟨hg0, _⟩ := hg; (try simp only [List.cons_append, List.nil_append, gvl_nil, gvl_t, gvl_f]); exact v_fieldAddr (off' := 5) Tryz.underlying25 rfl sz3 (by decide) rfl rfl) ?_
  refine x_if [] rfl rfl rfl rfl rfl (fun hg => by obtain ⟨hg0, _⟩ := hg; (try simp only [List.cons_append, List.nil_append, gvl_nil, gvl_t, gvl_f]); exact v_load Tryz.underlying3 rfl rfl (at_ownL (vs := o.cells) (by repeat (first | exact List.Mem.head _ | apply List.Mem.tail)) rfl)) ?_
  refine x_buildSlice_g (cs := [Value.int .i64 o.src, .int .i64 o.num, .int .i64 o.price]) rfl rfl rfl rfl rfl Tryz.underlying113 sz3 zr3 rfl rfl rfl ?_
  intro p18
  refine x_call_ifb [] rfl rfl rfl rfl rfl Tryz.func43 (by kernel_rfl) (fun hg => by obtain ⟨hg0, _⟩ := hg; (try simp only [List.cons_append, List.nil_append, gvl_nil, gvl_t, gvl_f]); refine ⟨_, rfl, ?_⟩; exact fun w1 hw1 => c_within 0 999999999 w1 (rowI_rd (D := fun _ => True) (e := 3) (r := some (p18, [Value.int .i64 o.src, Value.int .i64 o.num, Value.int .i64 o.price], 3)) (n := 3) (ds := [o.src, o.num, o.price]) (rowOK_lit rfl (by decide)) rfl (by simpa using hok2) hw1 (fun q hq => by rw [List.mem_singleton.1 hq]; exact .head _) (fun _ _ => trivial))) ?_
  intro b19 hb19
  obtain rfl : b19 = true := hb19.trans h2
  refine x_bool rfl rfl rfl (v_and rfl rfl) ?_
  intro b20 hb20
  obtain rfl : b20 = true := hb20
  refine x_val rfl rfl rfl (v_move rfl) ?_
  refine x_if [] rfl rfl rfl rfl rfl (fun hg => by obtain ⟨hg0, _⟩ := hg; (try simp only [List.cons_append, List.nil_append, gvl_nil, gvl_t, gvl_f]); exact v_fieldAddr (off' := 4) Tryz.underlying25 rfl sz3 (by decide) rfl rfl) ?_
  refine x_if [] rfl rfl rfl rfl rfl (fun hg => by obtain ⟨hg0, _⟩ := hg; (try simp only [List.cons_append, List.nil_append, gvl_nil, gvl_t, gvl_f]); exact v_load Tryz.underlying3 rfl rfl (at_ownL (vs := o.cells) (by repeat (first | exact List.Mem.head _ | apply List.Mem.tail)) rfl)) ?_
  refine x_buildSlice_g (cs := [Value.int .i64 o.copies]) rfl rfl rfl rfl rfl Tryz.underlying113 sz3 zr3 rfl rfl rfl ?_
  intro p24
  refine x_call_ifb [] rfl rfl rfl rfl rfl Tryz.func43 (by kernel_rfl) (fun hg => by obtain ⟨hg0, _⟩ := hg; (try simp only [List.cons_append, List.nil_append, gvl_nil, gvl_t, gvl_f]); refine ⟨_, rfl, ?_⟩; exact fun w1 hw1 => c_within 1 9999 w1 (rowI_rd (D := fun _ => True) (e := 3) (r := some (p24, [Value.int .i64 o.copies], 1)) (n := 1) (ds := [o.copies]) (rowOK_lit rfl (by decide)) rfl (by simpa using hok3) hw1 (fun q hq => by rw [List.mem_singleton.1 hq]; exact .head _) (fun _ _ => trivial))) ?_
  intro b25 hb25
  refine x_val (v := .bool b25) rfl rfl rfl (v_pick (b := true) rfl rfl) ?_
  refine x_val rfl rfl rfl (v_assign rfl) ?_
  refine x_end ?_
  refine t_norm ?_
  refine w_ret ?_
  refine ret1 rfl rfl (fun w' hm => ⟨?_, hm.base (by simp)⟩)
  unfold writB; rw [h1, h2, hb25]; rfl
theorem c_writable (o : Ord) (w : World) (hok : o.ok) :
    Calls Tryz.prog 30 #[.agg o.cells.toArray] w fun e w' => e = .returned (.bool (writB o)) ∧ Later w w' := by
  cases h1 : wi 1 999999999 [o.id, o.fund] with
  | false => exact c_wrA o w hok h1
  | true =>
    cases h2 : wi 0 999999999 [o.src, o.num, o.price] with
    | false => exact c_wrB o w hok h1 h2
    | true => exact c_wrC o w hok h1 h2

end Go.Proofs.YtbamklefagghcaaGreatDoor

namespace Go.Proofs.YtbamklefagghcaaGreatDoor
open Go.RowKit Go.PK
set_option linter.unusedVariables false
set_option linter.unusedSimpArgs false
set_option maxRecDepth 100000 in
theorem c_segment {v : Value} {es : List ByteArray} {D : Nat → Prop} (tag : ByteArray) (w : World) (hes : sliceRd tyStr D w v es) (hz : ∀ e ∈ es, e.size ≤ 2000000000) (hn : es.length ≤ 1000) (hL : LD w) :
    Calls Tryz.prog 31 #[.string tag, v] w fun e w' => ∃ u, e = .returned (.agg #[.string tag, u]) ∧ Later w w' ∧ sliceRd (tySlice tyStr) (fun b => w.heap.size ≤ b) w' u (es.map splitC) := by
  obtain ⟨A, cp, rfl, hlc, hmx, _⟩ := id hes
  refine enter (vs := [.string tag, Value.slice A es.length cp]) Tryz.func31 rfl Tryz.ntmps31 rfl ?_
  refine w_seq ?_
  refine rg_text ?_
  refine x_alloc rfl rfl rfl zr49 ?_
  intro p4
  refine x_end ?_
  refine t_norm ?_
  refine w_seq ?_
  refine rg_text ?_
  refine x_val rfl rfl rfl (v_move rfl) ?_
  refine x_val rfl rfl rfl (v_buildL (places := [(0, 1), (1, 1)]) Tryz.underlying49 zr49 (by kernel_rfl) rfl rfl) ?_
  refine x_alloc rfl rfl rfl zr49 ?_
  intro p5
  refine x_store0 [] rfl rfl rfl rfl sz49 rfl rfl ?_
  refine x_end ?_
  refine t_norm ?_
  refine w_seq ?_
  refine w_seq ?_
  refine rg_text ?_
  refine x_val rfl rfl rfl (v_move rfl) ?_
  refine x_val rfl rfl rfl (v_len_slice Tryz.underlying54 rfl) ?_
  refine x_val rfl rfl rfl (v_move rfl) ?_
  refine x_end ?_
  refine t_norm ?_
  refine w_block ?_
  refine w_fix ((p5, Obj.cells [Value.string tag, rowV none (0)].toArray 49) :: (rowO 54 none ++ [(p4, Obj.cells [Value.string ⟨#[]⟩, .slice none 0 0].toArray 49)])) (List.Sublist.refl _) (fun w0 hm0 => ?_)
  refine w_loop (σ := Nat × RowS × World) (fun x => x.1 ≤ es.length ∧ RowT (tySlice tyStr) (newD w ((p5, Obj.cells [Value.string tag, rowV x.2.1 (x.1)].toArray 49) :: (rowO 54 x.2.1 ++ [(p4, Obj.cells [Value.string ⟨#[]⟩, .slice none 0 0].toArray 49)]))) x.2.2 x.2.1 ((es.take x.1).map splitC)) (fun x => [(4, Value.pointer (some ⟨p4, 0, none⟩)), (5, Value.pointer (some ⟨p5, 0, none⟩)), (10, Value.slice A es.length cp), (11, Value.int .i64 (es.length : Nat)), (12, Value.int .i64 (x.1 : Nat))]) (fun x => (p5, Obj.cells [Value.string tag, rowV x.2.1 (x.1)].toArray 49) :: (rowO 54 x.2.1 ++ [(p4, Obj.cells [Value.string ⟨#[]⟩, .slice none 0 0].toArray 49)])) (fun x => (x.2.2, notOwn ((p5, Obj.cells [Value.string tag, rowV x.2.1 (x.1)].toArray 49) :: (rowO 54 x.2.1 ++ [(p4, Obj.cells [Value.string ⟨#[]⟩, .slice none 0 0].toArray 49)]))) :: [(w, fun _ => True)]) (fun x => es.length - x.1) ((0, none, w0)) (⟨Nat.zero_le _, RowT.nil⟩) (l_start (by repeat (first | exact Sub.nil | refine Sub.cons rfl ?_)) (fun _ h => h)) ?_
  rintro ⟨k, R, ws⟩ ⟨hk, hT⟩
  refine w_state ([(4, Value.pointer (some ⟨p4, 0, none⟩)), (5, Value.pointer (some ⟨p5, 0, none⟩)), (10, Value.slice A es.length cp), (11, Value.int .i64 (es.length : Nat)), (12, Value.int .i64 (k : Nat))]) ((p5, Obj.cells [Value.string tag, rowV R (k)].toArray 49) :: (rowO 54 R ++ [(p4, Obj.cells [Value.string ⟨#[]⟩, .slice none 0 0].toArray 49)])) ((ws, notOwn ((p5, Obj.cells [Value.string tag, rowV R (k)].toArray 49) :: (rowO 54 R ++ [(p4, Obj.cells [Value.string ⟨#[]⟩, .slice none 0 0].toArray 49)]))) :: [(w, fun _ => True)]) ?_
  dsimp only at hk hT
  have hln : ((es.take k).map splitC).length = k := by simp; omega
  refine w_seq ?_
  refine rg_text ?_
  refine x_bool rfl rfl rfl (v_lss rfl rfl) ?_
  intro b13 hb13
  refine x_end ?_
  refine t_norm ?_
  refine w_seq ?_
  refine w_cond rfl (fun hc13 => ?_) (fun hc13 => ?_)
  · simp only [hb13, decide_eq_true_eq, decide_eq_false_iff_not, Bool.and_eq_true, Bool.or_eq_true, Bool.and_eq_false_iff, Bool.or_eq_false_iff, Bool.not_eq_true', Bool.not_eq_false', ne_eq, Decidable.not_not] at hc13
    have hkl : k < es.length := by omega
    obtain ⟨b0, o0, hA0, _, hc0, _⟩ := s_at hes hkl
    have hze := hz _ (List.getElem_mem hkl)
    refine w_skip ?_
    refine t_norm ?_
    refine w_seq ?_
    refine w_block ?_
    refine w_seq ?_
    refine rg_text ?_
    refine x_val rfl rfl rfl (v_indexAddr Tryz.underlying54 sz9 (congrArg (fun A => some (Value.slice A es.length cp)) hA0) rfl (by first | omega | (dsimp only; omega)) rfl) ?_
    refine x_val rfl rfl rfl (v_load Tryz.underlying9 rfl rfl (at_ro (List.mem_cons_of_mem _ (.head _)) trivial (by rw [Nat.mul_one]; exact hc0))) ?_
    refine x_val rfl rfl rfl (v_assign rfl) ?_
    refine x_end ?_
    refine t_norm ?_
    refine rg_draw 5 [(true, 0), (true, 1), (true, 2), (false, 3), (false, 4)] (by kernel_rfl) (by kernel_rfl) ?_
    refine x_val rfl rfl rfl (v_fieldAddr (off' := 1) Tryz.underlying49 rfl sz47 (by decide) rfl rfl) ?_
    refine x_val rfl rfl rfl (v_load Tryz.underlying47 rfl rfl (at_ownL (vs := [Value.string tag, rowV R k]) (.head _) rfl)) ?_
    refine x_val rfl rfl rfl (v_move rfl) ?_
    refine x_call (R := fun v wa wb => sliceRd tyStr (fun b => wa.heap.size ≤ b) wb v (splitC es[k])) rfl rfl rfl Tryz.func60 (by kernel_rfl) rfl (fun w1 hw1 => c_Split es[k] w1 hze (hL.later (hw1.base (by simp)))) ?_
    intro v19 wa wb hwa hwl hR
    obtain ⟨A9, c9, rfl, hl9, hm9, _⟩ := id hR
    obtain ⟨css, hcl, hrow, hrd⟩ := hT
    rw [hln] at hcl hrow
    refine x_buildSliceL (cs := [Value.slice A9 (splitC es[k]).length c9]) rfl rfl rfl Tryz.underlying47 sz54 zr54 rfl rfl rfl ?_
    intro p20
    refine x_append (e := 54) [(p20, Obj.cells [Value.slice A9 (splitC es[k]).length c9].toArray 54), (p5, Obj.cells [Value.string tag, rowV R (k)].toArray 49)] (l2 := [(p4, Obj.cells [Value.string ⟨#[]⟩, .slice none 0 0].toArray 49)]) R (len := k) (xs := css.flatten) rfl rfl rfl rfl rfl hrow Tryz.underlying47 ap54 rfl rfl (m := 1) (news := [Value.slice A9 (splitC es[k]).length c9]) (fun i hi => at_ownL (vs := [Value.slice A9 (splitC es[k]).length c9]) (.head _) (by rw [Nat.zero_add]; exact List.getElem?_eq_getElem hi)) rfl (by simp only [maxLen]; omega) (by omega) ?_
    intro R' hR'
    refine x_val rfl rfl rfl (v_fieldAddr (off' := 1) Tryz.underlying49 rfl sz47 (by decide) rfl rfl) ?_
    refine x_store (cs := [Value.string tag, rowV R k]) (off := 1) [(p20, Obj.cells [Value.slice A9 (splitC es[k]).length c9].toArray 54)] rfl rfl rfl rfl sz47 rfl (by show 2 ≤ 2; decide) ?_
    refine x_end ?_
    refine b_norm ?_
    refine t_norm ?_
    refine rg_text ?_
    refine x_val rfl rfl rfl (v_addi rfl rfl rfl (by first | omega | (dsimp only; omega))) ?_
    refine x_val rfl rfl rfl (v_move rfl) ?_
    refine x_end ?_
    refine s_fix ((p5, Obj.cells [Value.string tag, rowV R' (k + 1)].toArray 49) :: (rowO 54 R' ++ [(p4, Obj.cells [Value.string ⟨#[]⟩, .slice none 0 0].toArray 49)])) (List.sublist_cons_self _ _) (fun w0 hm0 => ?_)
    have hT' := snocN (T := tySlice tyStr) (D := newD w ((p5, Obj.cells [Value.string tag, rowV R' (k + 1)].toArray 49) :: (rowO 54 R' ++ [(p4, Obj.cells [Value.string ⟨#[]⟩, .slice none 0 0].toArray 49)]))) (ws := w0) (x := splitC es[k]) hln hcl (fun j h1 h2 => (tySlice tyStr).keep (hrd j h1 h2) (Kept.frz hm0 (List.sublist_cons_self _ _) (by simp))) hR' ⟨_, rfl, hR.keep (Kept.made2 (hm0.less (List.sublist_cons_self _ _) (fun _ h => h)) (.head _) (fun k hk p hp he => by have := hwa.lt hp; omega) (hwa.base (by simp)).size)⟩
    exact l_norm (x := (k, R, ws)) (μ := fun q : Nat × RowS × World => es.length - q.1) (k + 1, R', w0) ⟨by dsimp only; omega, by dsimp only; rw [List.take_succ_eq_append_getElem hkl, List.map_append]; exact hT'⟩ (by simp only; omega) (by repeat (first | exact Sub.nil | refine Sub.cons rfl ?_)) (fun w1 h => h.less (List.Sublist.refl _) (fun q hq => by simp at hq ⊢; rcases hq with h | h; (· exact .inl h); simp [h]))
  · simp only [hb13, decide_eq_false_iff_not] at hc13
    obtain rfl : k = es.length := by omega
    rw [List.take_length] at hT hln
    refine w_exit ?_
    refine t_exit ?_
    refine t_exit ?_
    refine b_hit ?_
    refine t_norm ?_
    refine w_seq ?_
    refine rg_text ?_
    refine x_val rfl rfl rfl (v_load_blk (e := 49) (fz := (0, 0)) (cs := [Value.string tag, rowV R es.length].toArray) Tryz.underlying49 rfl rfl (.head _) sz49) ?_
    refine x_store0 ((p5, Obj.cells [Value.string tag, rowV R (es.length)].toArray 49) :: rowO 54 R) rfl rfl rfl rfl sz49 rfl rfl ?_
    refine x_end ?_
    refine t_norm ?_
    refine w_ret ?_
    refine retc rfl rfl (List.mem_cons_of_mem _ (List.mem_append_right _ (.head _))) Tryz.underlying49 rfl sz49 (fun w' hm => ⟨_, rfl, hm.base (by simp), ?_⟩)
    exact (hT.keep (Kept.frz hm (List.Sublist.refl _) (.head _))).rd (e := 54) hm (fun q hq => List.mem_cons_of_mem _ (List.mem_append_left _ hq)) (fun _ h => h.1) (fun q hq => hm.newer (by simp) (List.mem_cons_of_mem _ (List.mem_append_left _ hq))) hln.symm

end Go.Proofs.YtbamklefagghcaaGreatDoor
