/- Of the proofs of YtdampedpgbnihaaGreatDoor: Wc Wd We Wf Wg Wh Wi Wj Wk Wl Wm Wn Wo Wp Wq Wr, put together. -/
import Derived.Test.YtdampedpgbnihaaGreatDoorC3
import Derived.Test.YtdampedpgbnihaaGreatDoorC1
import Derived.Test.YtdampedpgbnihaaGreatDoorShelfS
import Derived.Test.YtdampedpgbnihaaGreatDoorC2
import Derived.Lib.SmallJoins
namespace Go.Proofs.YtdampedpgbnihaaGreatDoor
open Go.RowKit Go.PK
set_option linter.unusedVariables false
set_option linter.unusedSimpArgs false
theorem ap5 : (Tryz.prog.info? 5).map (fun j => (j.zero, j.size, j.bytes)) = some (some (.int .u8 0), 1, 1) := by kernel_rfl
theorem lies66 : liesAt Tryz.prog Tryz.prog.depth 154 ((#[Value.nilIface, Value.nilIface] : Array Value).size / Tryz.prog.cellsOf 154) 0 154 1 = true := by kernel_rfl
set_option maxRecDepth 100000 in
theorem c_cc0 {l2 : List (Nat × Obj)} {ro : List Snap} {p : Nat} {r : RowS} {bs : List UInt8} (w : World) (hm : Mem w ((bld2 154 5 p (.pointer none) r (bs.length)) ++ l2) ro) :
    Calls Tryz.prog 111 #[.pointer (some ⟨p, 0, none⟩)] w fun e w' => e = .returned (.tuple #[]) ∧ Mem w' ((bld2 154 5 p (.pointer (some ⟨p, 0, none⟩)) r (bs.length)) ++ l2) ro := by
  refine enter_in hm (vs := [.pointer (some ⟨p, 0, none⟩)]) Tryz.func111 rfl Tryz.ntmps111 rfl ?_
  refine w_seq ?_
  refine rg_text ?_
  refine x_val rfl rfl rfl (v_move rfl) ?_
  refine x_val rfl rfl rfl (v_nilCheck rfl) ?_
  refine x_val rfl rfl rfl (v_fieldAddr (off' := 0) Tryz.underlying154 rfl sz152 (by decide) rfl rfl) ?_
  refine x_val rfl rfl rfl (v_load Tryz.underlying152 rfl rfl (at_ownL (vs := [(.pointer none), rowV r bs.length]) (.head _) rfl)) ?_
  refine x_bool rfl rfl rfl (v_pnil Tryz.underlying152 rfl rfl) ?_
  intro b6 hb6
  refine x_end ?_
  refine t_norm ?_
  refine w_cond rfl (fun hc6 => ?_) (fun hc6 => ?_)
  · skip
    refine rg_text ?_
    refine x_val rfl rfl rfl (v_move rfl) ?_
    refine x_val rfl rfl rfl (v_move rfl) ?_
    refine x_val rfl rfl rfl (v_toUns (e := 154) (cs := #[(.pointer none), rowV r bs.length]) (fz := (0, 0)) (m := 1) Tryz.underlying152 Tryz.underlying183 sz154 rfl (.head _) (show 0 < 2 by decide)) ?_
    refine x_val rfl rfl rfl (v_noEsc Tryz.func126 (by kernel_rfl) (by kernel_rfl) (by kernel_rfl) (by kernel_rfl) rfl) ?_
    refine x_val rfl rfl rfl (v_fromUns (e := 154) (cs := #[(.pointer none), rowV r bs.length]) (fz := (0, 0)) Tryz.underlying183 Tryz.underlying152 ⟨_, (Option.map_eq_some_iff.1 sz154).choose_spec.1⟩ rfl (.head _) lies66) ?_
    refine x_val rfl rfl rfl (v_nilCheck rfl) ?_
    refine x_val rfl rfl rfl (v_fieldAddr (off' := 0) Tryz.underlying154 rfl sz152 (by decide) rfl rfl) ?_
    refine x_store [] rfl rfl rfl rfl sz152 rfl (by show 1 ≤ 2; decide) ?_
    refine x_end ?_
    exact ret0 rfl (fun w' hm' => ⟨rfl, hm'⟩)
  · rw [hb6] at hc6; cases hc6
set_option maxRecDepth 100000 in
theorem c_cc1 {l2 : List (Nat × Obj)} {ro : List Snap} {p : Nat} {r : RowS} {bs : List UInt8} (w : World) (hm : Mem w ((bld2 154 5 p (.pointer (some ⟨p, 0, none⟩)) r (bs.length)) ++ l2) ro) :
    Calls Tryz.prog 111 #[.pointer (some ⟨p, 0, none⟩)] w fun e w' => e = .returned (.tuple #[]) ∧ Mem w' ((bld2 154 5 p (.pointer (some ⟨p, 0, none⟩)) r (bs.length)) ++ l2) ro := by
  refine enter_in hm (vs := [.pointer (some ⟨p, 0, none⟩)]) Tryz.func111 rfl Tryz.ntmps111 rfl ?_
  refine w_seq ?_
  refine rg_text ?_
  refine x_val rfl rfl rfl (v_move rfl) ?_
  refine x_val rfl rfl rfl (v_nilCheck rfl) ?_
  refine x_val rfl rfl rfl (v_fieldAddr (off' := 0) Tryz.underlying154 rfl sz152 (by decide) rfl rfl) ?_
  refine x_val rfl rfl rfl (v_load Tryz.underlying152 rfl rfl (at_ownL (vs := [(.pointer (some ⟨p, 0, none⟩)), rowV r bs.length]) (.head _) rfl)) ?_
  refine x_bool rfl rfl rfl (v_pnil Tryz.underlying152 rfl rfl) ?_
  intro b6 hb6
  refine x_end ?_
  refine t_norm ?_
  refine w_cond rfl (fun hc6 => ?_) (fun hc6 => ?_)
  · rw [hb6] at hc6; cases hc6
  · skip
    refine w_seq ?_
    refine rg_text ?_
    refine x_val rfl rfl rfl (v_move rfl) ?_
    refine x_val rfl rfl rfl (v_nilCheck rfl) ?_
    refine x_val rfl rfl rfl (v_fieldAddr (off' := 0) Tryz.underlying154 rfl sz152 (by decide) rfl rfl) ?_
    refine x_val rfl rfl rfl (v_load Tryz.underlying152 rfl rfl (at_ownL (vs := [(.pointer (some ⟨p, 0, none⟩)), rowV r bs.length]) (.head _) rfl)) ?_
    refine x_val rfl rfl rfl (v_move rfl) ?_
    refine x_bool rfl rfl rfl (v_pne Tryz.underlying152 (Option.map_eq_some_iff.1 sz154).choose_spec.1 rfl rfl) ?_
    intro b19 hb19
    refine x_end ?_
    refine t_norm ?_
    refine w_cond rfl (fun hc19 => ?_) (fun hc19 => ?_)
    · rw [hb19] at hc19; cases hc19
    · skip
      refine w_skip ?_
      exact ret0 rfl (fun w' hm' => ⟨rfl, hm'⟩)
theorem c_cc {l2 : List (Nat × Obj)} {ro : List Snap} {p : Nat} {pp : Value} {r : RowS} {bs : List UInt8} (w : World) (hm : Mem w ((bld2 154 5 p pp r (bs.length)) ++ l2) ro) (hp : ppOK p pp) :
    Calls Tryz.prog 111 #[.pointer (some ⟨p, 0, none⟩)] w fun e w' => e = .returned (.tuple #[]) ∧ Mem w' ((bld2 154 5 p (.pointer (some ⟨p, 0, none⟩)) r (bs.length)) ++ l2) ro := by
  rcases hp with rfl | rfl
  · exact c_cc0 w hm
  · exact c_cc1 w hm
set_option maxRecDepth 100000 in
theorem c_WB {l2 : List (Nat × Obj)} {ro : List Snap} {p : Nat} {pp : Value} {r : RowS} {bs : List UInt8} (w : World) (hm : Mem w ((bld2 154 5 p pp r (bs.length)) ++ l2) ro) (hp : ppOK p pp) (c : UInt8) (hr : rowOK 1 r bs.length (byC bs)) (hl : bs.length ≤ 4000000000000) :
    Calls Tryz.prog 100 #[.pointer (some ⟨p, 0, none⟩), .int .u8 (c.toNat : Nat)] w fun e w' => e = .returned .nilIface ∧ ∃ r', rowOK 1 r' (bs ++ [c]).length (byC (bs ++ [c])) ∧ Mem w' ((bld2 154 5 p (.pointer (some ⟨p, 0, none⟩)) r' ((bs ++ [c]).length)) ++ l2) ro := by
  refine enter_in hm (vs := [.pointer (some ⟨p, 0, none⟩), .int .u8 (c.toNat : Nat)]) Tryz.func100 rfl Tryz.ntmps100 rfl ?_
  refine w_seq ?_
  refine rg_text ?_
  refine x_val rfl rfl rfl (v_assign rfl) ?_
  refine x_end ?_
  refine t_norm ?_
  refine w_seq ?_
  refine rg_text ?_
  refine x_val rfl rfl rfl (v_move rfl) ?_
  refine x_turnf (τ := Unit) (v := .tuple #[]) (fun _ => True) (fun _ => (bld2 154 5 p (.pointer (some ⟨p, 0, none⟩)) r (bs.length)) ++ l2) rfl rfl Tryz.func111 (by kernel_rfl) rfl (fun w1 hw1 => by have hc := c_cc w1 hw1 hp; exact hc.mono fun e w2 h => ⟨h.1, (), trivial, h.2⟩) ?_
  intro _ _
  refine x_end ?_
  refine t_norm ?_
  refine w_seq ?_
  refine rg_text ?_
  refine x_val rfl rfl rfl (v_move rfl) ?_
  refine x_val rfl rfl rfl (v_move rfl) ?_
  refine x_val rfl rfl rfl (v_nilCheck rfl) ?_
  refine x_val rfl rfl rfl (v_fieldAddr (off' := 1) Tryz.underlying154 rfl sz138 (by decide) rfl rfl) ?_
  refine x_val rfl rfl rfl (v_load Tryz.underlying138 rfl rfl (at_ownL (vs := [(.pointer (some ⟨p, 0, none⟩)), rowV r bs.length]) (.head _) rfl)) ?_
  refine x_val rfl rfl rfl (v_move rfl) ?_
  refine x_buildSliceL rfl rfl rfl Tryz.underlying138 sz5 zr5 rfl rfl rfl ?_
  intro p13
  refine x_append (e := 5) [(p13, _), (p, _)] (l2 := l2) r (len := bs.length) (xs := byC bs) rfl rfl rfl rfl rfl hr Tryz.underlying138 ap5 rfl rfl (m := 1) (news := byC [c]) (fun i hi => at_ownL (vs := byC [c]) (.head _) (by rw [Nat.zero_add]; exact List.getElem?_eq_getElem hi)) rfl (by simp only [maxLen]; omega) (by omega) ?_
  intro r' hr'
  refine x_val rfl rfl rfl (v_nilCheck rfl) ?_
  refine x_val rfl rfl rfl (v_fieldAddr (off' := 1) Tryz.underlying154 rfl sz138 (by decide) rfl rfl) ?_
  refine x_store [(p13, _)] rfl rfl rfl rfl sz138 rfl (by show 2 ≤ 2; decide) ?_
  refine x_end ?_
  refine t_norm ?_
  refine w_seq ?_
  refine rg_text ?_
  refine x_val rfl rfl rfl (v_assign rfl) ?_
  refine x_end ?_
  refine t_norm ?_
  refine w_ret ?_
  refine ret1 rfl rfl (fun w' hm' => ⟨rfl, r', ?_, ?_⟩)
  · rw [byC_app, List.length_append]; exact hr'
  · rw [List.length_append]; exact hm'.less (List.sublist_cons_self _ _) (fun _ h => h)
theorem c_BS {l2 : List (Nat × Obj)} {ro : List Snap} {p : Nat} {pp : Value} {r : RowS} {bs : List UInt8} (w : World) (hm : Mem w ((bld2 154 5 p pp r (bs.length)) ++ l2) ro) (hp : ppOK p pp) (hr : rowOK 1 r bs.length (byC bs)) {B : Nat} (hB : ∀ s ∈ ro, s.1.heap.size ≤ B) (h2 : ∀ q ∈ l2, q.1 < B) (hb : ∀ q ∈ (bld2 154 5 p pp r (bs.length)), B ≤ q.1) (hBw : B ≤ w.heap.size) :
    Calls Tryz.prog 99 #[.pointer (some ⟨p, 0, none⟩)] w fun e w' => e = .returned (.string ⟨bs.toArray⟩) ∧ Mem w' l2 ro :=
  (Tryz.Builder_String_any_k B p bs w (bld2_is hm hp hr rfl hb) hBw).mono fun e w' ⟨h1, _, h3, _⟩ => ⟨h1, hm.after hB h2 h3⟩

end Go.Proofs.YtdampedpgbnihaaGreatDoor

namespace Go.Proofs.YtdampedpgbnihaaGreatDoor
open Go.RowKit Go.PK
set_option linter.unusedVariables false
set_option linter.unusedSimpArgs false
def pieceV : PieceR → Value
  | some (t, c, _) => .tuple #[.string ⟨t.toArray⟩, .int .u8 (c.toNat : Nat), .bool true]
  | none => .tuple #[.string ⟨#[]⟩, .int .u8 0, .bool false]
set_option maxRecDepth 100000 in
theorem c_piece {l1 l2 : List (Nat × Obj)} {ro : List Snap} {p : Nat} (g : Sg) (s : ByteArray) (a : Nat) (w : World) (hm : Mem w (l1 ++ (p, Obj.cells (msgC g s (a)).toArray 121) :: l2) ro) (hs : s.size ≤ 200000000) (ha : a ≤ s.size) :
    Calls Tryz.prog 88 #[.pointer (some ⟨p, 0, none⟩)] w fun e w' => e = .returned (pieceV (pieceP s g a [])) ∧ ∃ a', (∀ t c z, pieceP s g a [] = some (t, c, z) → a' = z) ∧ Mem w' (l1 ++ (p, Obj.cells (msgC g s (a')).toArray 121) :: l2) ro := by
  refine enter_in hm.snap (vs := [.pointer (some ⟨p, 0, none⟩)]) Tryz.func88 rfl Tryz.ntmps88 rfl ?_
  refine w_seq ?_
  refine rg_text ?_
  refine x_val rfl rfl rfl (v_assign rfl) ?_
  refine x_val rfl rfl rfl (v_assign rfl) ?_
  refine x_val rfl rfl rfl (v_assign rfl) ?_
  refine x_end ?_
  refine t_norm ?_
  refine w_seq ?_
  refine rg_text ?_
  refine x_alloc rfl rfl rfl zr154 ?_
  intro p5
  refine x_end ?_
  refine t_norm ?_
  refine w_seq ?_
  refine w_block ?_
  refine w_loop (σ := Nat × List UInt8 × Value × RowS) (fun x => x.1 ≤ s.size ∧ pieceP s g x.1 x.2.1 = pieceP s g a [] ∧ ppOK p5 x.2.2.1 ∧ rowOK 1 x.2.2.2 x.2.1.length (byC x.2.1) ∧ x.2.1.length ≤ x.1) (fun x => [(0, .pointer (some ⟨p, 0, none⟩)), (5, .pointer (some ⟨p5, 0, none⟩))]) (fun x => ((bld2 154 5 p5 x.2.2.1 x.2.2.2 (x.2.1.length)) ++ l1) ++ (p, Obj.cells (msgC g s (x.1)).toArray 121) :: l2) (fun x => (w, notOwn (l1 ++ (p, Obj.cells (msgC g s (a)).toArray 121) :: l2)) :: ro) (fun x => s.size - x.1) ((a, [], .pointer none, none)) (⟨ha, rfl, .inl rfl, rowOK_nil, Nat.zero_le _⟩) (l_start (by repeat (first | exact Sub.nil | refine Sub.cons rfl ?_)) (fun _ h => h)) ?_
  rintro ⟨x, bs, pp, r⟩ ⟨hx, hP, hpp, hr, hbl⟩
  refine w_state ([(0, .pointer (some ⟨p, 0, none⟩)), (5, .pointer (some ⟨p5, 0, none⟩))]) (((bld2 154 5 p5 pp r (bs.length)) ++ l1) ++ (p, Obj.cells (msgC g s (x)).toArray 121) :: l2) ((w, notOwn (l1 ++ (p, Obj.cells (msgC g s (a)).toArray 121) :: l2)) :: ro) ?_
  dsimp only at hx hP hpp hr hbl
  have hpe := piece_eq s g x bs
  refine w_seq ?_
  refine w_seq ?_
  refine rg_draw 10 [(true, 0), (true, 1), (true, 2), (true, 3), (true, 4), (true, 5), (true, 6), (true, 7), (true, 8), (true, 9)] (by kernel_rfl) (by kernel_rfl) ?_
  refine x_val rfl rfl rfl (v_move rfl) ?_
  refine x_val rfl rfl rfl (v_nilCheck rfl) ?_
  refine x_val rfl rfl rfl (v_fieldAddr (off' := 5) Tryz.underlying121 rfl sz3 (by decide) rfl rfl) ?_
  refine x_val rfl rfl rfl (v_load Tryz.underlying3 rfl rfl (at_ownL (vs := msgC g s (x)) (List.mem_append_right _ (.head _)) rfl)) ?_
  refine x_val rfl rfl rfl (v_move rfl) ?_
  refine x_val rfl rfl rfl (v_nilCheck rfl) ?_
  refine x_val rfl rfl rfl (v_fieldAddr (off' := 4) Tryz.underlying121 rfl sz9 (by decide) rfl rfl) ?_
  refine x_val rfl rfl rfl (v_load Tryz.underlying9 rfl rfl (at_ownL (vs := msgC g s (x)) (List.mem_append_right _ (.head _)) rfl)) ?_
  refine x_val rfl rfl rfl (v_len_str Tryz.underlying9 rfl) ?_
  refine x_bool rfl rfl rfl (v_lss rfl rfl) ?_
  intro b16 hb16
  refine x_end ?_
  refine t_norm ?_
  refine w_cond rfl (fun hc16 => ?_) (fun hc16 => ?_)
  · simp only [hb16, decide_eq_true_eq, decide_eq_false_iff_not, Bool.and_eq_true, Bool.or_eq_true, Bool.and_eq_false_iff, Bool.or_eq_false_iff, Bool.not_eq_true', Bool.not_eq_false', ne_eq, Decidable.not_not] at hc16
    have hx2 : x < s.size := by omega
    refine w_skip ?_
    refine t_norm ?_
    refine w_block ?_
    refine w_seq ?_
    refine rg_draw 10 [(true, 0), (true, 1), (true, 2), (true, 3), (true, 4), (true, 5), (true, 6), (true, 7), (true, 8), (true, 9)] (by kernel_rfl) (by kernel_rfl) ?_
    refine x_val rfl rfl rfl (v_move rfl) ?_
    refine x_val rfl rfl rfl (v_nilCheck rfl) ?_
    refine x_val rfl rfl rfl (v_fieldAddr (off' := 4) Tryz.underlying121 rfl sz9 (by decide) rfl rfl) ?_
    refine x_val rfl rfl rfl (v_load Tryz.underlying9 rfl rfl (at_ownL (vs := msgC g s (x)) (List.mem_append_right _ (.head _)) rfl)) ?_
    refine x_val rfl rfl rfl (v_move rfl) ?_
    refine x_val rfl rfl rfl (v_nilCheck rfl) ?_
    refine x_val rfl rfl rfl (v_fieldAddr (off' := 5) Tryz.underlying121 rfl sz3 (by decide) rfl rfl) ?_
    refine x_val rfl rfl rfl (v_load Tryz.underlying3 rfl rfl (at_ownL (vs := msgC g s (x)) (List.mem_append_right _ (.head _)) rfl)) ?_
    refine x_val rfl rfl rfl (v_index Tryz.underlying9 rfl rfl (by omega)) ?_
    refine x_val rfl rfl rfl (v_assign rfl) ?_
    refine x_end ?_
    refine t_norm ?_
    refine w_seq ?_
    refine rg_text ?_
    refine x_val rfl rfl rfl (v_move rfl) ?_
    refine x_val rfl rfl rfl (v_nilCheck rfl) ?_
    refine x_val rfl rfl rfl (v_fieldAddr (off' := 5) Tryz.underlying121 rfl sz3 (by decide) rfl rfl) ?_
    refine x_val rfl rfl rfl (v_load Tryz.underlying3 rfl rfl (at_ownL (vs := msgC g s (x)) (List.mem_append_right _ (.head _)) rfl)) ?_
    refine x_val rfl rfl rfl (v_addi rfl rfl rfl (by omega)) ?_
    refine x_val rfl rfl rfl (v_nilCheck rfl) ?_
    refine x_val rfl rfl rfl (v_fieldAddr (off' := 5) Tryz.underlying121 rfl sz3 (by decide) rfl rfl) ?_
    refine x_store ((bld2 154 5 p5 pp r (bs.length)) ++ l1) rfl rfl rfl rfl sz3 rfl (by show 6 ≤ 6; decide) ?_
    refine x_end ?_
    refine t_norm ?_
    refine w_seq ?_
    refine w_seq ?_
    refine rg_text ?_
    refine x_val rfl rfl rfl (v_move rfl) ?_
    refine x_end ?_
    refine t_norm ?_
    refine w_block ?_
    refine w_seq ?_
    refine w_seq ?_
    refine rg_text ?_
    refine x_val rfl rfl rfl (v_move rfl) ?_
    refine x_val rfl rfl rfl (v_nilCheck rfl) ?_
    refine x_val rfl rfl rfl (v_fieldAddr (off' := 0) Tryz.underlying121 rfl sz119 (by decide) rfl rfl) ?_
    refine x_val rfl rfl rfl (v_fieldAddr (off' := 0) Tryz.underlying119 rfl sz5 (by decide) rfl rfl) ?_
    refine x_val rfl rfl rfl (v_load Tryz.underlying5 rfl rfl (at_ownL (vs := msgC g s (x + 1)) (List.mem_append_right _ (.head _)) rfl)) ?_
    refine x_bool rfl rfl rfl (v_eql rfl rfl) ?_
    intro b40 hb40
    refine x_val rfl rfl rfl (v_assign rfl) ?_
    refine x_end ?_
    refine t_norm ?_
    refine w_cond rfl (fun hc34 => ?_) (fun hc34 => ?_)
    · simp only [hb40, decide_eq_true_eq, decide_eq_false_iff_not, Bool.and_eq_true, Bool.or_eq_true, Bool.and_eq_false_iff, Bool.or_eq_false_iff, Bool.not_eq_true', Bool.not_eq_false', ne_eq, Decidable.not_not] at hc34
      have hsg : byteAt s x = g.c ∨ byteAt s x = g.e ∨ byteAt s x = g.n := .inl (u8_lit.1 hc34)
      refine w_skip ?_
      refine t_norm ?_
      refine w_cond rfl (fun hc34 => ?_) (fun hc34 => ?_)
      · skip
        refine w_seq ?_
        refine rg_text ?_
        refine x_turnf (τ := Unit) (v := .string ⟨bs.toArray⟩) (fun _ => True) (fun _ => l1 ++ (p, Obj.cells (msgC g s (x + 1)).toArray 121) :: l2) rfl rfl Tryz.func99 (by kernel_rfl) rfl (fun w1 hw1 => by
          rw [List.append_assoc] at hw1
          have hB : ∀ q ∈ (bld2 154 5 p5 pp r (bs.length)), w.heap.size ≤ q.1 := hw1.newB (own0 := l1 ++ (p, Obj.cells (msgC g s (a)).toArray 121) :: l2) (.head _) (fun k hk => by simpa using hk)
          have hc := c_BS w1 hw1 hpp hr (B := w.heap.size) (fun q hq => by
            rcases List.mem_cons.1 hq with rfl | hq
            · exact Nat.le_refl _
            · exact (hm.ro_st q hq).2.2.2) (fun q hq => by
              obtain ⟨q2, hq2, e⟩ : ∃ q2 ∈ l1 ++ (p, Obj.cells (msgC g s (a)).toArray 121) :: l2, q2.1 = q.1 := by
                simp only [List.mem_append, List.mem_cons] at hq ⊢
                rcases hq with hq | rfl | hq
                · exact ⟨q, .inl hq, rfl⟩
                · exact ⟨_, .inr (.inl rfl), rfl⟩
                · exact ⟨q, .inr (.inr hq), rfl⟩
              rw [← e]; exact hm.lt hq2) hB (hw1.ro_st _ (.head _)).2.2.2
          exact hc.mono fun e w2 h => ⟨h.1, (), trivial, h.2⟩) ?_
        intro _ _
        refine x_val rfl rfl rfl (v_move rfl) ?_
        refine x_val rfl rfl rfl (v_assign rfl) ?_
        refine x_val rfl rfl rfl (v_assign rfl) ?_
        refine x_val rfl rfl rfl (v_assign rfl) ?_
        refine x_end ?_
        refine t_norm ?_
        refine w_ret ?_
        refine b_ret ?_
        refine t_ret ?_
        refine b_ret ?_
        refine t_ret ?_
        refine b_ret ?_
        refine t_ret ?_
        refine ret3 rfl rfl rfl rfl (fun w' hm' => ?_)
        have eP : pieceP s g a [] = some (bs, byteAt s x, x + 1) := by rw [← hP, hpe, if_pos hx2, if_pos hsg]
        rw [eP]
        exact ⟨rfl, x + 1, fun t c z h => by injection h with h; injection h with _ h; injection h with _ h, hm'.less (List.Sublist.refl _) (fun q hq => .tail _ hq)⟩
      · simp only [hb40, decide_eq_true_eq, decide_eq_false_iff_not, Bool.and_eq_true, Bool.or_eq_true, Bool.and_eq_false_iff, Bool.or_eq_false_iff, Bool.not_eq_true', Bool.not_eq_false', ne_eq, Decidable.not_not] at hc34
        omega
    · simp only [hb40, decide_eq_true_eq, decide_eq_false_iff_not, Bool.and_eq_true, Bool.or_eq_true, Bool.and_eq_false_iff, Bool.or_eq_false_iff, Bool.not_eq_true', Bool.not_eq_false', ne_eq, Decidable.not_not] at hc34
      have h34a := hc34
      refine w_seq ?_
      refine rg_text ?_
      refine x_val rfl rfl rfl (v_move rfl) ?_
      refine x_val rfl rfl rfl (v_nilCheck rfl) ?_
      refine x_val rfl rfl rfl (v_fieldAddr (off' := 0) Tryz.underlying121 rfl sz119 (by decide) rfl rfl) ?_
      refine x_val rfl rfl rfl (v_fieldAddr (off' := 1) Tryz.underlying119 rfl sz5 (by decide) rfl rfl) ?_
      refine x_val rfl rfl rfl (v_load Tryz.underlying5 rfl rfl (at_ownL (vs := msgC g s (x + 1)) (List.mem_append_right _ (.head _)) rfl)) ?_
      refine x_bool rfl rfl rfl (v_eql rfl rfl) ?_
      intro b46 hb46
      refine x_val rfl rfl rfl (v_assign rfl) ?_
      refine x_end ?_
      refine t_norm ?_
      refine w_cond rfl (fun hc34 => ?_) (fun hc34 => ?_)
      · simp only [hb46, decide_eq_true_eq, decide_eq_false_iff_not, Bool.and_eq_true, Bool.or_eq_true, Bool.and_eq_false_iff, Bool.or_eq_false_iff, Bool.not_eq_true', Bool.not_eq_false', ne_eq, Decidable.not_not] at hc34
        have hsg : byteAt s x = g.c ∨ byteAt s x = g.e ∨ byteAt s x = g.n := .inr (.inl (u8_lit.1 hc34))
        refine w_skip ?_
        refine t_norm ?_
        refine w_cond rfl (fun hc34 => ?_) (fun hc34 => ?_)
        · skip
          refine w_seq ?_
          refine rg_text ?_
          refine x_turnf (τ := Unit) (v := .string ⟨bs.toArray⟩) (fun _ => True) (fun _ => l1 ++ (p, Obj.cells (msgC g s (x + 1)).toArray 121) :: l2) rfl rfl Tryz.func99 (by kernel_rfl) rfl (fun w1 hw1 => by
            rw [List.append_assoc] at hw1
            have hB : ∀ q ∈ (bld2 154 5 p5 pp r (bs.length)), w.heap.size ≤ q.1 := hw1.newB (own0 := l1 ++ (p, Obj.cells (msgC g s (a)).toArray 121) :: l2) (.head _) (fun k hk => by simpa using hk)
            have hc := c_BS w1 hw1 hpp hr (B := w.heap.size) (fun q hq => by
              rcases List.mem_cons.1 hq with rfl | hq
              · exact Nat.le_refl _
              · exact (hm.ro_st q hq).2.2.2) (fun q hq => by
                obtain ⟨q2, hq2, e⟩ : ∃ q2 ∈ l1 ++ (p, Obj.cells (msgC g s (a)).toArray 121) :: l2, q2.1 = q.1 := by
                  simp only [List.mem_append, List.mem_cons] at hq ⊢
                  rcases hq with hq | rfl | hq
                  · exact ⟨q, .inl hq, rfl⟩
                  · exact ⟨_, .inr (.inl rfl), rfl⟩
                  · exact ⟨q, .inr (.inr hq), rfl⟩
                rw [← e]; exact hm.lt hq2) hB (hw1.ro_st _ (.head _)).2.2.2
            exact hc.mono fun e w2 h => ⟨h.1, (), trivial, h.2⟩) ?_
          intro _ _
          refine x_val rfl rfl rfl (v_move rfl) ?_
          refine x_val rfl rfl rfl (v_assign rfl) ?_
          refine x_val rfl rfl rfl (v_assign rfl) ?_
          refine x_val rfl rfl rfl (v_assign rfl) ?_
          refine x_end ?_
          refine t_norm ?_
          refine w_ret ?_
          refine b_ret ?_
          refine t_ret ?_
          refine b_ret ?_
          refine t_ret ?_
          refine b_ret ?_
          refine t_ret ?_
          refine ret3 rfl rfl rfl rfl (fun w' hm' => ?_)
          have eP : pieceP s g a [] = some (bs, byteAt s x, x + 1) := by rw [← hP, hpe, if_pos hx2, if_pos hsg]
          rw [eP]
          exact ⟨rfl, x + 1, fun t c z h => by injection h with h; injection h with _ h; injection h with _ h, hm'.less (List.Sublist.refl _) (fun q hq => .tail _ hq)⟩
        · simp only [hb46, decide_eq_true_eq, decide_eq_false_iff_not, Bool.and_eq_true, Bool.or_eq_true, Bool.and_eq_false_iff, Bool.or_eq_false_iff, Bool.not_eq_true', Bool.not_eq_false', ne_eq, Decidable.not_not] at hc34
          omega
      · simp only [hb46, decide_eq_true_eq, decide_eq_false_iff_not, Bool.and_eq_true, Bool.or_eq_true, Bool.and_eq_false_iff, Bool.or_eq_false_iff, Bool.not_eq_true', Bool.not_eq_false', ne_eq, Decidable.not_not] at hc34
        have h34b := hc34
        refine rg_text ?_
        refine x_val rfl rfl rfl (v_move rfl) ?_
        refine x_val rfl rfl rfl (v_nilCheck rfl) ?_
        refine x_val rfl rfl rfl (v_fieldAddr (off' := 0) Tryz.underlying121 rfl sz119 (by decide) rfl rfl) ?_
        refine x_val rfl rfl rfl (v_fieldAddr (off' := 3) Tryz.underlying119 rfl sz5 (by decide) rfl rfl) ?_
        refine x_val rfl rfl rfl (v_load Tryz.underlying5 rfl rfl (at_ownL (vs := msgC g s (x + 1)) (List.mem_append_right _ (.head _)) rfl)) ?_
        refine x_bool rfl rfl rfl (v_eql rfl rfl) ?_
        intro b52 hb52
        refine x_val rfl rfl rfl (v_assign rfl) ?_
        refine x_end ?_
        refine t_norm ?_
        refine w_cond rfl (fun hc34 => ?_) (fun hc34 => ?_)
        · simp only [hb52, decide_eq_true_eq, decide_eq_false_iff_not, Bool.and_eq_true, Bool.or_eq_true, Bool.and_eq_false_iff, Bool.or_eq_false_iff, Bool.not_eq_true', Bool.not_eq_false', ne_eq, Decidable.not_not] at hc34
          have hsg : byteAt s x = g.c ∨ byteAt s x = g.e ∨ byteAt s x = g.n := .inr (.inr (u8_lit.1 hc34))
          refine w_seq ?_
          refine rg_text ?_
          refine x_turnf (τ := Unit) (v := .string ⟨bs.toArray⟩) (fun _ => True) (fun _ => l1 ++ (p, Obj.cells (msgC g s (x + 1)).toArray 121) :: l2) rfl rfl Tryz.func99 (by kernel_rfl) rfl (fun w1 hw1 => by
            rw [List.append_assoc] at hw1
            have hB : ∀ q ∈ (bld2 154 5 p5 pp r (bs.length)), w.heap.size ≤ q.1 := hw1.newB (own0 := l1 ++ (p, Obj.cells (msgC g s (a)).toArray 121) :: l2) (.head _) (fun k hk => by simpa using hk)
            have hc := c_BS w1 hw1 hpp hr (B := w.heap.size) (fun q hq => by
              rcases List.mem_cons.1 hq with rfl | hq
              · exact Nat.le_refl _
              · exact (hm.ro_st q hq).2.2.2) (fun q hq => by
                obtain ⟨q2, hq2, e⟩ : ∃ q2 ∈ l1 ++ (p, Obj.cells (msgC g s (a)).toArray 121) :: l2, q2.1 = q.1 := by
                  simp only [List.mem_append, List.mem_cons] at hq ⊢
                  rcases hq with hq | rfl | hq
                  · exact ⟨q, .inl hq, rfl⟩
                  · exact ⟨_, .inr (.inl rfl), rfl⟩
                  · exact ⟨q, .inr (.inr hq), rfl⟩
                rw [← e]; exact hm.lt hq2) hB (hw1.ro_st _ (.head _)).2.2.2
            exact hc.mono fun e w2 h => ⟨h.1, (), trivial, h.2⟩) ?_
          intro _ _
          refine x_val rfl rfl rfl (v_move rfl) ?_
          refine x_val rfl rfl rfl (v_assign rfl) ?_
          refine x_val rfl rfl rfl (v_assign rfl) ?_
          refine x_val rfl rfl rfl (v_assign rfl) ?_
          refine x_end ?_
          refine t_norm ?_
          refine w_ret ?_
          refine b_ret ?_
          refine t_ret ?_
          refine b_ret ?_
          refine t_ret ?_
          refine b_ret ?_
          refine t_ret ?_
          refine ret3 rfl rfl rfl rfl (fun w' hm' => ?_)
          have eP : pieceP s g a [] = some (bs, byteAt s x, x + 1) := by rw [← hP, hpe, if_pos hx2, if_pos hsg]
          rw [eP]
          exact ⟨rfl, x + 1, fun t c z h => by injection h with h; injection h with _ h; injection h with _ h, hm'.less (List.Sublist.refl _) (fun q hq => .tail _ hq)⟩
        · simp only [hb52, decide_eq_true_eq, decide_eq_false_iff_not, Bool.and_eq_true, Bool.or_eq_true, Bool.and_eq_false_iff, Bool.or_eq_false_iff, Bool.not_eq_true', Bool.not_eq_false', ne_eq, Decidable.not_not] at hc34
          have hns : ¬(byteAt s x = g.c ∨ byteAt s x = g.e ∨ byteAt s x = g.n) := fun h => by rcases h with h | h | h <;> (rw [h] at h34a h34b hc34; omega)
          refine w_seq ?_
          refine rg_text ?_
          refine x_val rfl rfl rfl (v_move rfl) ?_
          refine x_val rfl rfl rfl (v_nilCheck rfl) ?_
          refine x_val rfl rfl rfl (v_fieldAddr (off' := 0) Tryz.underlying121 rfl sz119 (by decide) rfl rfl) ?_
          refine x_val rfl rfl rfl (v_fieldAddr (off' := 2) Tryz.underlying119 rfl sz5 (by decide) rfl rfl) ?_
          refine x_val rfl rfl rfl (v_load Tryz.underlying5 rfl rfl (at_ownL (vs := msgC g s (x + 1)) (List.mem_append_right _ (.head _)) rfl)) ?_
          refine x_bool rfl rfl rfl (v_eql rfl rfl) ?_
          intro b61 hb61
          refine x_val rfl rfl rfl (v_assign rfl) ?_
          refine x_end ?_
          refine t_norm ?_
          refine w_cond rfl (fun hc55 => ?_) (fun hc55 => ?_)
          · simp only [hb61, decide_eq_true_eq, decide_eq_false_iff_not, Bool.and_eq_true, Bool.or_eq_true, Bool.and_eq_false_iff, Bool.or_eq_false_iff, Bool.not_eq_true', Bool.not_eq_false', ne_eq, Decidable.not_not] at hc55
            have hrl : byteAt s x = g.r := u8_lit.1 hc55
            refine w_seq ?_
            refine w_seq ?_
            refine rg_draw 10 [(true, 0), (true, 1), (true, 2), (true, 3), (true, 4), (true, 5), (true, 6), (true, 7), (true, 8), (true, 9)] (by kernel_rfl) (by kernel_rfl) ?_
            refine x_val rfl rfl rfl (v_move rfl) ?_
            refine x_val rfl rfl rfl (v_nilCheck rfl) ?_
            refine x_val rfl rfl rfl (v_fieldAddr (off' := 5) Tryz.underlying121 rfl sz3 (by decide) rfl rfl) ?_
            refine x_val rfl rfl rfl (v_load Tryz.underlying3 rfl rfl (at_ownL (vs := msgC g s (x + 1)) (List.mem_append_right _ (.head _)) rfl)) ?_
            refine x_val rfl rfl rfl (v_move rfl) ?_
            refine x_val rfl rfl rfl (v_nilCheck rfl) ?_
            refine x_val rfl rfl rfl (v_fieldAddr (off' := 4) Tryz.underlying121 rfl sz9 (by decide) rfl rfl) ?_
            refine x_val rfl rfl rfl (v_load Tryz.underlying9 rfl rfl (at_ownL (vs := msgC g s (x + 1)) (List.mem_append_right _ (.head _)) rfl)) ?_
            refine x_val rfl rfl rfl (v_len_str Tryz.underlying9 rfl) ?_
            refine x_bool rfl rfl rfl (v_eql rfl rfl) ?_
            intro b71 hb71
            refine x_end ?_
            refine t_norm ?_
            refine w_cond rfl (fun hc71 => ?_) (fun hc71 => ?_)
            · simp only [hb71, decide_eq_true_eq, decide_eq_false_iff_not, Bool.and_eq_true, Bool.or_eq_true, Bool.and_eq_false_iff, Bool.or_eq_false_iff, Bool.not_eq_true', Bool.not_eq_false', ne_eq, Decidable.not_not] at hc71
              have he : x + 1 = s.size := by omega
              refine w_seq ?_
              refine rg_text ?_
              refine x_val rfl rfl rfl (v_assign rfl) ?_
              refine x_val rfl rfl rfl (v_assign rfl) ?_
              refine x_val rfl rfl rfl (v_assign rfl) ?_
              refine x_end ?_
              refine t_norm ?_
              refine w_ret ?_
              refine t_ret ?_
              refine b_ret ?_
              refine t_ret ?_
              refine b_ret ?_
              refine t_ret ?_
              refine b_ret ?_
              refine t_ret ?_
              refine ret3 rfl rfl rfl rfl (fun w' hm' => ?_)
              have eP : pieceP s g a [] = none := by rw [← hP, hpe, if_pos hx2, if_neg hns, if_pos hrl, if_pos he]
              rw [eP]
              exact ⟨rfl, x + 1, fun t c z h => (by cases h), hm'.less (by rw [List.append_assoc]; exact List.sublist_append_right _ _) (fun q hq => .tail _ hq)⟩
            · simp only [hb71, decide_eq_true_eq, decide_eq_false_iff_not, Bool.and_eq_true, Bool.or_eq_true, Bool.and_eq_false_iff, Bool.or_eq_false_iff, Bool.not_eq_true', Bool.not_eq_false', ne_eq, Decidable.not_not] at hc71
              have he : ¬x + 1 = s.size := by omega
              refine w_skip ?_
              refine t_norm ?_
              refine w_seq ?_
              refine rg_draw 10 [(true, 0), (true, 1), (true, 2), (true, 3), (true, 4), (true, 5), (true, 6), (true, 7), (true, 8), (true, 9)] (by kernel_rfl) (by kernel_rfl) ?_
              refine x_val rfl rfl rfl (v_move rfl) ?_
              refine x_val rfl rfl rfl (v_nilCheck rfl) ?_
              refine x_val rfl rfl rfl (v_fieldAddr (off' := 4) Tryz.underlying121 rfl sz9 (by decide) rfl rfl) ?_
              refine x_val rfl rfl rfl (v_load Tryz.underlying9 rfl rfl (at_ownL (vs := msgC g s (x + 1)) (List.mem_append_right _ (.head _)) rfl)) ?_
              refine x_val rfl rfl rfl (v_move rfl) ?_
              refine x_val rfl rfl rfl (v_nilCheck rfl) ?_
              refine x_val rfl rfl rfl (v_fieldAddr (off' := 5) Tryz.underlying121 rfl sz3 (by decide) rfl rfl) ?_
              refine x_val rfl rfl rfl (v_load Tryz.underlying3 rfl rfl (at_ownL (vs := msgC g s (x + 1)) (List.mem_append_right _ (.head _)) rfl)) ?_
              refine x_val rfl rfl rfl (v_index Tryz.underlying9 rfl rfl (by omega)) ?_
              refine x_val rfl rfl rfl (v_assign rfl) ?_
              refine x_end ?_
              refine t_norm ?_
              refine rg_text ?_
              refine x_val rfl rfl rfl (v_move rfl) ?_
              refine x_val rfl rfl rfl (v_nilCheck rfl) ?_
              refine x_val rfl rfl rfl (v_fieldAddr (off' := 5) Tryz.underlying121 rfl sz3 (by decide) rfl rfl) ?_
              refine x_val rfl rfl rfl (v_load Tryz.underlying3 rfl rfl (at_ownL (vs := msgC g s (x + 1)) (List.mem_append_right _ (.head _)) rfl)) ?_
              refine x_val rfl rfl rfl (v_addi rfl rfl rfl (by omega)) ?_
              refine x_val rfl rfl rfl (v_nilCheck rfl) ?_
              refine x_val rfl rfl rfl (v_fieldAddr (off' := 5) Tryz.underlying121 rfl sz3 (by decide) rfl rfl) ?_
              refine x_store ((bld2 154 5 p5 pp r (bs.length)) ++ l1) rfl rfl rfl rfl sz3 rfl (by show 6 ≤ 6; decide) ?_
              refine x_end ?_
              refine b_norm ?_
              refine t_norm ?_
              refine rg_text ?_
              refine x_val rfl rfl rfl (v_move rfl) ?_
              refine x_turnf (τ := RowS) (v := .nilIface) (fun r' => rowOK 1 r' (bs ++ [byteAt s (x + 1)]).length (byC (bs ++ [byteAt s (x + 1)]))) (fun r' => ((bld2 154 5 p5 (.pointer (some ⟨p5, 0, none⟩)) r' ((bs ++ [byteAt s (x + 1)]).length)) ++ l1) ++ (p, Obj.cells (msgC g s (x + 2)).toArray 121) :: l2) rfl rfl Tryz.func100 (by kernel_rfl) rfl (fun w1 hw1 => by
                rw [List.append_assoc] at hw1
                have hc := c_WB w1 hw1 hpp (byteAt s (x + 1)) hr (by omega)
                exact hc.mono fun e w2 ⟨h1, r', h2, h3⟩ => ⟨h1, r', h2, by rw [List.append_assoc]; exact h3⟩) ?_
              intro r' hr'
              refine x_end ?_
              refine b_norm ?_
              exact l_norm (x + 2, bs ++ [byteAt s (x + 1)], (.pointer (some ⟨p5, 0, none⟩)), r') ⟨by dsimp only; omega, by dsimp only; rw [← hP, hpe, if_pos hx2, if_neg hns, if_pos hrl, if_neg he], .inr rfl, hr', by dsimp only; rw [List.length_append, List.length_singleton]; omega⟩ (by simp only; omega) (by repeat (first | exact Sub.nil | refine Sub.cons rfl ?_)) (fun _ h => h)
          · simp only [hb61, decide_eq_true_eq, decide_eq_false_iff_not, Bool.and_eq_true, Bool.or_eq_true, Bool.and_eq_false_iff, Bool.or_eq_false_iff, Bool.not_eq_true', Bool.not_eq_false', ne_eq, Decidable.not_not] at hc55
            have hrl : ¬byteAt s x = g.r := fun h => hc55 (u8_lit.2 h)
            refine w_skip ?_
            refine b_norm ?_
            refine t_norm ?_
            refine rg_text ?_
            refine x_val rfl rfl rfl (v_move rfl) ?_
            refine x_turnf (τ := RowS) (v := .nilIface) (fun r' => rowOK 1 r' (bs ++ [byteAt s x]).length (byC (bs ++ [byteAt s x]))) (fun r' => ((bld2 154 5 p5 (.pointer (some ⟨p5, 0, none⟩)) r' ((bs ++ [byteAt s x]).length)) ++ l1) ++ (p, Obj.cells (msgC g s (x + 1)).toArray 121) :: l2) rfl rfl Tryz.func100 (by kernel_rfl) rfl (fun w1 hw1 => by
              rw [List.append_assoc] at hw1
              have hc := c_WB w1 hw1 hpp (byteAt s x) hr (by omega)
              exact hc.mono fun e w2 ⟨h1, r', h2, h3⟩ => ⟨h1, r', h2, by rw [List.append_assoc]; exact h3⟩) ?_
            intro r' hr'
            refine x_end ?_
            refine b_norm ?_
            exact l_norm (x + 1, bs ++ [byteAt s x], (.pointer (some ⟨p5, 0, none⟩)), r') ⟨by dsimp only; omega, by dsimp only; rw [← hP, hpe, if_pos hx2, if_neg hns, if_neg hrl], .inr rfl, hr', by dsimp only; rw [List.length_append, List.length_singleton]; omega⟩ (by simp only; omega) (by repeat (first | exact Sub.nil | refine Sub.cons rfl ?_)) (fun _ h => h)
  · simp only [hb16, decide_eq_true_eq, decide_eq_false_iff_not, Bool.and_eq_true, Bool.or_eq_true, Bool.and_eq_false_iff, Bool.or_eq_false_iff, Bool.not_eq_true', Bool.not_eq_false', ne_eq, Decidable.not_not] at hc16
    have hx2 : ¬x < s.size := by omega
    refine w_exit ?_
    refine t_exit ?_
    refine t_exit ?_
    refine b_hit ?_
    refine t_norm ?_
    refine w_seq ?_
    refine rg_text ?_
    refine x_val rfl rfl rfl (v_assign rfl) ?_
    refine x_val rfl rfl rfl (v_assign rfl) ?_
    refine x_val rfl rfl rfl (v_assign rfl) ?_
    refine x_end ?_
    refine t_norm ?_
    refine w_ret ?_
    refine ret3 rfl rfl rfl rfl (fun w' hm' => ?_)
    have eP : pieceP s g a [] = none := by rw [← hP, hpe, if_neg hx2]
    rw [eP]
    exact ⟨rfl, x, fun t c z h => (by cases h), hm'.less (by rw [List.append_assoc]; exact List.sublist_append_right _ _) (fun q hq => .tail _ hq)⟩

end Go.Proofs.YtdampedpgbnihaaGreatDoor

namespace Go.Proofs.YtdampedpgbnihaaGreatDoor
open Go.RowKit Go.PK
set_option linter.unusedVariables false
set_option linter.unusedSimpArgs false
theorem ap104 : (Tryz.prog.info? 104).map (fun j => (j.zero, j.size, j.bytes)) = some (some (.slice none 0 0), 1, 24) := by kernel_rfl
theorem ap9 : (Tryz.prog.info? 9).map (fun j => (j.zero, j.size, j.bytes)) = some (some (.string ⟨#[]⟩), 1, 16) := by kernel_rfl
theorem pieceV_is (x : PieceR) : ∃ (t : ByteArray) (c : UInt8) (k : Bool), pieceV x = .tuple #[.string t, .int .u8 (c.toNat : Nat), .bool k] ∧ (k = true → ∃ l z, x = some (l, c, z) ∧ t = ⟨l.toArray⟩) ∧ (k = false → x = none) := by
  match x with
  | none => exact ⟨_, 0, false, rfl, fun h => (by cases h), fun _ => rfl⟩
  | some (l, c, z) => exact ⟨_, c, true, rfl, fun _ => ⟨l, z, rfl, rfl⟩, fun h => (by cases h)⟩
set_option maxRecDepth 100000 in
theorem c_elements {l1 l2 : List (Nat × Obj)} {ro : List Snap} {p : Nat} (g : Sg) (s : ByteArray) (a : Nat) (w : World) (hm : Mem w (l1 ++ (p, Obj.cells (msgC g s (a)).toArray 121) :: l2) ro) (hs : s.size ≤ 200000000) (ha : a < s.size) (hen : byteAt s a = g.e ∨ byteAt s a = g.n) :
    Calls Tryz.prog 70 #[.pointer (some ⟨p, 0, none⟩)] w fun e w' => ∃ v, e = .returned v ∧ ∃ a', (∃ u, v = .tuple #[u, .bool (elP s g (byteAt s a) (a + 1) []).isSome] ∧ ∀ l z, elP s g (byteAt s a) (a + 1) [] = some (l, z) → a' = z ∧ sliceRd (tySlice tyStr) (fun b => w.heap.size ≤ b) w' u l) ∧ Mem w' (l1 ++ (p, Obj.cells (msgC g s (a')).toArray 121) :: l2) ro := by
  refine enter_in hm.snap (vs := [.pointer (some ⟨p, 0, none⟩)]) Tryz.func70 rfl Tryz.ntmps70 rfl ?_
  refine w_seq ?_
  refine rg_text ?_
  refine x_val rfl rfl rfl (v_assign rfl) ?_
  refine x_val rfl rfl rfl (v_assign rfl) ?_
  refine x_end ?_
  refine t_norm ?_
  refine w_seq ?_
  refine rg_text ?_
  refine x_val rfl rfl rfl (v_assign rfl) ?_
  refine x_end ?_
  refine t_norm ?_
  refine w_seq ?_
  refine w_seq ?_
  refine rg_text ?_
  refine x_val rfl rfl rfl (v_move rfl) ?_
  refine x_turnf (τ := Unit) (v := .int .u8 ((byteAt s a).toNat : Nat)) (fun _ => True) (fun _ => l1 ++ (p, Obj.cells (msgC g s (a + 1)).toArray 121) :: l2) rfl rfl Tryz.func87 (by kernel_rfl) rfl (fun w1 hw1 => (c_next g s a w1 hw1 hs ha).mono fun e w2 h => ⟨h.1, (), trivial, h.2⟩) ?_
  intro _ _
  refine x_val rfl rfl rfl (v_assign rfl) ?_
  refine x_end ?_
  refine t_norm ?_
  refine w_block ?_
  refine w_loop (σ := UInt8 × Nat × List (List ByteArray) × RowS × List RowS) (fun x => x.2.1 ≤ s.size ∧ a < x.2.1 ∧ elP s g x.1 x.2.1 x.2.2.1 = elP s g (byteAt s a) (a + 1) [] ∧ SSOK x.2.2.2.1 x.2.2.2.2 x.2.2.1 ∧ (x.1 = g.e ∨ x.1 = g.n ∨ x.2.2.1 ≠ []) ∧ x.2.2.1.length + 1 ≤ x.2.1 ∧ ∀ y ∈ x.2.2.1, y.length ≤ x.2.1 ∧ ∀ t ∈ y, t.size ≤ s.size) (fun x => [(0, .pointer (some ⟨p, 0, none⟩)), (4, rowV x.2.2.2.1 x.2.2.1.length), (5, Value.int .u8 (x.1.toNat : Nat))]) (fun x => rowO 104 x.2.2.2.1 ++ (inO 9 x.2.2.2.2 ++ (l1 ++ (p, Obj.cells (msgC g s (x.2.1)).toArray 121) :: l2))) (fun x => (w, notOwn (l1 ++ (p, Obj.cells (msgC g s (a)).toArray 121) :: l2)) :: ro) (fun x => s.size + 1 - x.2.1) ((byteAt s a, a + 1, [], none, [])) (⟨ha, Nat.lt_succ_self _, rfl, SSOK.nil, by rcases hen with h | h; (· exact .inl h); exact .inr (.inl h), by dsimp only [List.length_nil]; omega, fun y hy => by cases hy⟩) (l_start (by repeat (first | exact Sub.nil | refine Sub.cons rfl ?_)) (fun _ h => h)) ?_
  rintro ⟨c, x, xs, R, Ss⟩ ⟨hx, hax, hE, hS, hne, hz1, hz2⟩
  refine w_state ([(0, .pointer (some ⟨p, 0, none⟩)), (4, rowV R xs.length), (5, Value.int .u8 (c.toNat : Nat))]) (rowO 104 R ++ (inO 9 Ss ++ (l1 ++ (p, Obj.cells (msgC g s (x)).toArray 121) :: l2))) ((w, notOwn (l1 ++ (p, Obj.cells (msgC g s (a)).toArray 121) :: l2)) :: ro) ?_
  dsimp only at hx hax hE hS hne hz1 hz2
  have hee := el_eq s g c x xs
  refine w_seq ?_
  refine w_seq ?_
  refine rg_text ?_
  refine x_val rfl rfl rfl (v_move rfl) ?_
  refine x_val rfl rfl rfl (v_move rfl) ?_
  refine x_val rfl rfl rfl (v_nilCheck rfl) ?_
  refine x_val rfl rfl rfl (v_fieldAddr (off' := 0) Tryz.underlying121 rfl sz119 (by decide) rfl rfl) ?_
  refine x_val rfl rfl rfl (v_fieldAddr (off' := 3) Tryz.underlying119 rfl sz5 (by decide) rfl rfl) ?_
  refine x_val rfl rfl rfl (v_load Tryz.underlying5 rfl rfl (at_ownL (vs := msgC g s (x)) (List.mem_append_right _ (List.mem_append_right _ (List.mem_append_right _ (.head _)))) rfl)) ?_
  refine x_bool rfl rfl rfl (v_neq rfl rfl) ?_
  intro b17 hb17
  refine x_end ?_
  refine t_norm ?_
  refine w_cond rfl (fun hc17 => ?_) (fun hc17 => ?_)
  · simp only [hb17, decide_eq_true_eq, decide_eq_false_iff_not, Bool.and_eq_true, Bool.or_eq_true, Bool.and_eq_false_iff, Bool.or_eq_false_iff, Bool.not_eq_true', Bool.not_eq_false', ne_eq, Decidable.not_not] at hc17
    have hcn : ¬c = g.n := fun h => hc17 (u8_lit.2 h)
    rw [if_neg hcn] at hee
    refine w_skip ?_
    refine t_norm ?_
    refine w_block ?_
    refine w_seq_cut (σ := List (List ByteArray) × RowS × List RowS) (fun q => q.1 = newEl g c xs ∧ q.1 ≠ [] ∧ SSOK q.2.1 q.2.2 q.1 ∧ q.1.length ≤ x ∧ ∀ y ∈ q.1, y.length ≤ x ∧ ∀ t ∈ y, t.size ≤ s.size) (fun q => [(0, .pointer (some ⟨p, 0, none⟩)), (4, rowV q.2.1 q.1.length)]) (fun q => rowO 104 q.2.1 ++ (inO 9 q.2.2 ++ (l1 ++ (p, Obj.cells (msgC g s (x)).toArray 121) :: l2))) (fun q => (w, notOwn (l1 ++ (p, Obj.cells (msgC g s (a)).toArray 121) :: l2)) :: ro) ?_ ?_
    · refine w_seq ?_
      refine rg_text ?_
      refine x_val rfl rfl rfl (v_move rfl) ?_
      refine x_val rfl rfl rfl (v_move rfl) ?_
      refine x_val rfl rfl rfl (v_nilCheck rfl) ?_
      refine x_val rfl rfl rfl (v_fieldAddr (off' := 0) Tryz.underlying121 rfl sz119 (by decide) rfl rfl) ?_
      refine x_val rfl rfl rfl (v_fieldAddr (off' := 1) Tryz.underlying119 rfl sz5 (by decide) rfl rfl) ?_
      refine x_val rfl rfl rfl (v_load Tryz.underlying5 rfl rfl (at_ownL (vs := msgC g s (x)) (List.mem_append_right _ (List.mem_append_right _ (List.mem_append_right _ (.head _)))) rfl)) ?_
      refine x_bool rfl rfl rfl (v_eql rfl rfl) ?_
      intro b24 hb24
      refine x_end ?_
      refine t_norm ?_
      refine w_cond rfl (fun hc24 => ?_) (fun hc24 => ?_)
      · simp only [hb24, decide_eq_true_eq, decide_eq_false_iff_not, Bool.and_eq_true, Bool.or_eq_true, Bool.and_eq_false_iff, Bool.or_eq_false_iff, Bool.not_eq_true', Bool.not_eq_false', ne_eq, Decidable.not_not] at hc24
        have hce : c = g.e := u8_lit.1 hc24
        refine rg_text ?_
        refine x_val rfl rfl rfl (v_move rfl) ?_
        refine x_buildSliceL rfl rfl rfl Tryz.underlying100 sz104 zr104 rfl rfl rfl ?_
        intro p26
        refine x_append (e := 104) [(p26, _)] (l2 := inO 9 Ss ++ (l1 ++ (p, Obj.cells (msgC g s (x)).toArray 121) :: l2)) R (len := xs.length) (xs := ssC xs Ss) rfl rfl rfl rfl rfl hS.row Tryz.underlying100 ap104 rfl rfl (m := 1) (news := [Value.slice none 0 0]) (fun i hi => at_ownL (vs := [Value.slice none 0 0]) (.head _) (by rw [Nat.zero_add]; exact List.getElem?_eq_getElem hi)) rfl (by simp only [maxLen]; omega) (by omega) ?_
        intro R' hR'
        refine x_val rfl rfl rfl (v_assign rfl) ?_
        refine x_end ?_
        exact c_norm (xs ++ [[]], R', Ss ++ [none]) (⟨by unfold newEl; rw [if_pos hce], by simp, hS.snoc hR' rowOK_nil, by dsimp only; rw [List.length_append, List.length_singleton]; omega, fun y hy => by rcases List.mem_append.1 hy with h | h; (· exact hz2 y h); rw [List.mem_singleton.1 h]; exact ⟨Nat.zero_le _, fun t ht => by cases ht⟩⟩) (by dsimp only; rw [List.length_append, List.length_singleton]; repeat (first | exact Sub.nil | refine Sub.cons rfl ?_)) (fun w1 h => (h.less (List.sublist_cons_self _ _) (fun _ h => h)).to (by dsimp only; rw [inO_snoc]; rfl))
      · simp only [hb24, decide_eq_true_eq, decide_eq_false_iff_not, Bool.and_eq_true, Bool.or_eq_true, Bool.and_eq_false_iff, Bool.or_eq_false_iff, Bool.not_eq_true', Bool.not_eq_false', ne_eq, Decidable.not_not] at hc24
        have hce : ¬c = g.e := fun h => hc24 (u8_lit.2 h)
        refine w_skip ?_
        exact c_norm (xs, R, Ss) (⟨by unfold newEl; rw [if_neg hce], by rcases hne with h | h | h; (· exact absurd h hce); (· exact absurd h hcn); exact h, hS, by dsimp only; omega, hz2⟩) (by repeat (first | exact Sub.nil | refine Sub.cons rfl ?_)) (fun _ h => h)
    · rintro ⟨zs, R2, S2⟩ ⟨hzs, hzn, hS2, hy1, hy2⟩
      refine w_state ([(0, .pointer (some ⟨p, 0, none⟩)), (4, rowV R2 zs.length)]) (rowO 104 R2 ++ (inO 9 S2 ++ (l1 ++ (p, Obj.cells (msgC g s (x)).toArray 121) :: l2))) ((w, notOwn (l1 ++ (p, Obj.cells (msgC g s (a)).toArray 121) :: l2)) :: ro) ?_
      dsimp only at hzs hzn hS2 hy1 hy2
      obtain ⟨pt, pc, pk, hpv, hpt, hpf⟩ := pieceV_is (pieceP s g x [])
      refine w_seq ?_
      refine rg_text ?_
      refine x_val rfl rfl rfl (v_move rfl) ?_
      refine x_turnf (τ := Nat) (v := .tuple #[.string pt, .int .u8 (pc.toNat : Nat), .bool pk]) (fun z => ∀ t c' u, pieceP s g x [] = some (t, c', u) → z = u) (fun z => rowO 104 R2 ++ (inO 9 S2 ++ (l1 ++ (p, Obj.cells (msgC g s (z)).toArray 121) :: l2))) rfl rfl Tryz.func88 (by kernel_rfl) rfl (fun w1 hw1 => by
        have h1 : Mem w1 ((rowO 104 R2 ++ (inO 9 S2 ++ l1)) ++ (p, Obj.cells (msgC g s (x)).toArray 121) :: l2) ro := (hw1.less (List.Sublist.refl _) (fun _ h => .tail _ h)).to (by simp [List.append_assoc])
        have h1 := hw1.to (own' := (rowO 104 R2 ++ (inO 9 S2 ++ l1)) ++ (p, Obj.cells (msgC g s (x)).toArray 121) :: l2) (by simp [List.append_assoc])
        exact (c_piece g s x w1 h1 hs hx).mono fun e w2 ⟨h2, z, h3, h4⟩ => ⟨by rw [h2, hpv], z, h3, h4.to (by simp [List.append_assoc])⟩) ?_
      intro az haz
      refine x_val rfl rfl rfl (v_move rfl) ?_
      refine x_val rfl rfl rfl (v_extract rfl rfl) ?_
      refine x_val rfl rfl rfl (v_extract rfl rfl) ?_
      refine x_bool rfl rfl rfl (v_extract rfl rfl) ?_
      intro b33 hb33
      refine x_val rfl rfl rfl (v_assign rfl) ?_
      refine x_val rfl rfl rfl (v_assign rfl) ?_
      refine x_val rfl rfl rfl (v_assign rfl) ?_
      refine x_end ?_
      refine t_norm ?_
      refine w_seq ?_
      refine w_seq ?_
      refine rg_text ?_
      refine x_val rfl rfl rfl (v_move rfl) ?_
      refine x_bool rfl rfl rfl (v_not rfl) ?_
      intro b35 hb35
      refine x_end ?_
      refine t_norm ?_
      refine w_cond rfl (fun hc35 => ?_) (fun hc35 => ?_)
      · have hk : pk = false := by rw [hb35] at hc35; subst hb33; simpa using hc35
        have hnone : elP s g (byteAt s a) (a + 1) [] = none := by rw [← hE, hee, hpf hk]
        refine w_seq ?_
        refine rg_text ?_
        refine x_val rfl rfl rfl (v_assign rfl) ?_
        refine x_val rfl rfl rfl (v_assign rfl) ?_
        refine x_end ?_
        refine t_norm ?_
        refine w_ret ?_
        refine t_ret ?_
        refine b_ret ?_
        refine t_ret ?_
        refine b_ret ?_
        refine t_ret ?_
        refine ret2 rfl rfl rfl (fun w' hm' => ⟨_, rfl, az, ⟨_, by rw [hnone]; rfl, fun l z h => ?_⟩, ?_⟩)
        · rw [hnone] at h; cases h
        · exact hm'.less ((List.sublist_append_right _ _).trans (List.sublist_append_right _ _)) (fun _ h => .tail _ h)
      · have hk : pk = true := by rw [hb35] at hc35; subst hb33; simpa using hc35
        obtain ⟨pl, pz, hpp, rfl⟩ := hpt hk
        obtain rfl := haz _ _ _ hpp
        obtain ⟨hp1, hp2, hp3, hp4⟩ := piece_adv hpp
        have hptz : (⟨pl.toArray⟩ : ByteArray).size ≤ s.size := by show (List.toArray pl).size ≤ _; rw [List.size_toArray]; simp only [List.length_nil] at hp3; omega
        obtain ⟨ys, y, Ts, S, bb, cs, cp, rfl, rfl, rfl⟩ := hS2.last hzn
        rw [inO_snoc, List.append_assoc]
        obtain ⟨hla, hlt⟩ := hS2.lastAt
        have hyl := hy2 y (by simp)
        have hzl : ys.length + 1 ≤ x := by simpa using hy1
        have hcp : ys.length + 1 ≤ cp := by have := hS2.row.2.1; simpa using this
        refine w_skip ?_
        refine t_norm ?_
        refine w_seq ?_
        refine rg_text ?_
        refine x_val rfl rfl rfl (v_move rfl) ?_
        refine x_val rfl rfl rfl (v_move rfl) ?_
        refine x_val rfl rfl rfl (v_len_slice Tryz.underlying100 rfl) ?_
        refine x_val rfl rfl rfl (v_subi (c := (ys.length : Int)) rfl rfl (by simp only [List.length_append, List.length_singleton]; omega) (by omega)) ?_
        refine x_val rfl rfl rfl (v_move rfl) ?_
        refine x_val rfl rfl rfl (v_move rfl) ?_
        refine x_val rfl rfl rfl (v_len_slice Tryz.underlying100 rfl) ?_
        refine x_val rfl rfl rfl (v_subi (c := (ys.length : Int)) rfl rfl (by simp only [List.length_append, List.length_singleton]; omega) (by omega)) ?_
        refine x_val rfl rfl rfl (v_indexAddr Tryz.underlying100 sz104 rfl rfl (by simp only [List.length_append, List.length_singleton]; omega) rfl) ?_
        refine x_val rfl rfl rfl (v_load Tryz.underlying104 rfl rfl (at_ownL (vs := cs) (.head _) (show cs[0 + ys.length * 1]? = some (rowV S y.length) from by rw [Nat.mul_one, Nat.zero_add]; exact hla))) ?_
        refine x_val rfl rfl rfl (v_move rfl) ?_
        refine x_buildSliceL rfl rfl rfl Tryz.underlying104 sz9 zr9 rfl rfl rfl ?_
        intro p47
        refine x_append (e := 9) [(p47, _), (bb, .cells cs.toArray 104 (0, 0))] (l2 := inO 9 Ts ++ (l1 ++ (p, Obj.cells (msgC g s (az)).toArray 121) :: l2)) S (len := y.length) (xs := y.map Value.string) rfl rfl rfl rfl rfl hS2.lastOK Tryz.underlying104 ap9 rfl rfl (m := 1) (news := [Value.string ⟨pl.toArray⟩]) (fun i hi => at_ownL (vs := [Value.string ⟨pl.toArray⟩]) (.head _) (by rw [Nat.zero_add]; exact List.getElem?_eq_getElem hi)) rfl (by simp only [maxLen]; omega) (by omega) ?_
        intro S' hS'
        refine x_val rfl rfl rfl (v_indexAddr Tryz.underlying100 sz104 rfl rfl (by simp only [List.length_append, List.length_singleton]; omega) rfl) ?_
        refine x_store (cs := cs) (off := 0 + ys.length * 1) [(p47, _)] rfl rfl rfl rfl sz104 rfl (by rw [Nat.mul_one, Nat.zero_add]; omega) ?_
        rw [show 0 + ys.length * 1 = ys.length by omega, put_cell hlt]
        refine x_end ?_
        refine t_norm ?_
        refine rg_text ?_
        refine x_val rfl rfl rfl (v_move rfl) ?_
        refine x_val rfl rfl rfl (v_assign rfl) ?_
        refine x_end ?_
        refine b_norm ?_
        have hS3 : SSOK (some (bb, cs.set ys.length (rowV S' (y.length + 1)), cp)) (Ts ++ [S']) (ys ++ [y ++ [⟨pl.toArray⟩]]) := by have h := hS2.setlast (S' := S') (y' := y ++ [⟨pl.toArray⟩]) (by simpa using hS'); simpa using h
        refine l_norm (pc, az, ys ++ [y ++ [⟨pl.toArray⟩]], some (bb, cs.set ys.length (rowV S' (y.length + 1)), cp), Ts ++ [S']) ⟨hp2, by dsimp only; omega, by dsimp only; rw [← hE, hee, hpp, ← hzs]; show _ = elP s g pc az (addLast (ys ++ [y]) ⟨pl.toArray⟩); rw [addLast_snoc], hS3, .inr (.inr (by simp)), by dsimp only; rw [List.length_append, List.length_singleton]; omega, fun y' hy' => ?_⟩ (by simp only; omega) (by dsimp only; rw [show (ys ++ [y ++ [(⟨pl.toArray⟩ : ByteArray)]]).length = (ys ++ [y]).length by simp]; repeat (first | exact Sub.nil | refine Sub.cons rfl ?_)) (fun w1 h => (h.less (List.sublist_cons_self _ _) (fun _ h => h)).to (by dsimp only; rw [inO_snoc, List.append_assoc]; rfl))
        rcases List.mem_append.1 hy' with h | h
        · obtain ⟨q1, q2⟩ := hy2 y' (List.mem_append_left _ h); exact ⟨by dsimp only; omega, q2⟩
        · rw [List.mem_singleton.1 h]; refine ⟨by dsimp only; rw [List.length_append, List.length_singleton]; omega, fun t ht => ?_⟩
          rcases List.mem_append.1 ht with ht | ht
          · exact hyl.2 t ht
          · rw [List.mem_singleton.1 ht]; exact hptz
  · have hcn : c = g.n := by rw [hb17] at hc17; exact u8_lit.1 (of_decide_eq_true (by simpa using hc17))
    rw [if_pos hcn] at hee
    refine w_exit ?_
    refine t_exit ?_
    refine t_exit ?_
    refine b_hit ?_
    refine t_norm ?_
    refine w_seq ?_
    refine rg_text ?_
    refine x_val rfl rfl rfl (v_move rfl) ?_
    refine x_val rfl rfl rfl (v_assign rfl) ?_
    refine x_val rfl rfl rfl (v_assign rfl) ?_
    refine x_end ?_
    refine t_norm ?_
    refine w_ret ?_
    refine ret2 rfl rfl rfl (fun w' hm' => ?_)
    have eP : elP s g (byteAt s a) (a + 1) [] = some (xs, x) := by rw [← hE, hee]
    have hm2 := hm'.to (own' := (rowO 104 R ++ inO 9 Ss) ++ (l1 ++ (p, Obj.cells (msgC g s (x)).toArray 121) :: l2)) (by simp [List.append_assoc])
    have hnew := hm2.newB (own0 := l1 ++ (p, Obj.cells (msgC g s (a)).toArray 121) :: l2) (.head _) (fun k hk => by simpa using hk)
    refine ⟨_, rfl, x, ⟨_, by rw [eP]; rfl, fun l z h => ?_⟩, ?_⟩
    · rw [eP] at h; injection h with h; injection h with h1 h2; subst h1; subst h2
      exact ⟨rfl, hS.rd (eR := 104) (eS := 9) rfl (fun q hq t ht => by have := (hz2 q hq).2 t ht; unfold okS; omega) hm2 (fun q hq => List.mem_append_left _ (List.mem_append_left _ hq)) (fun q hq => List.mem_append_left _ (List.mem_append_right _ hq)) (fun q hq => hnew q (List.mem_append_left _ hq)) (fun q hq => hnew q (List.mem_append_right _ hq))⟩
    · exact hm2.less (List.sublist_append_right _ _) (fun _ h => .tail _ h)

end Go.Proofs.YtdampedpgbnihaaGreatDoor

namespace Go.Proofs.YtdampedpgbnihaaGreatDoor
open Go.RowKit Go.PK
set_option linter.unusedVariables false
set_option linter.unusedSimpArgs false
set_option maxRecDepth 100000 in
theorem c_hasPre (s p : ByteArray) (w : World) :
    Calls Tryz.prog 96 #[.string s, .string p] w fun e w' => e = .returned (.bool (pre s p)) ∧ Later w w' := by
  refine enter (vs := [.string s, .string p]) Tryz.func96 rfl Tryz.ntmps96 rfl ?_
  refine w_seq ?_
  refine rg_text ?_
  refine x_val rfl rfl rfl (v_assign rfl) ?_
  refine x_end ?_
  refine t_norm ?_
  refine w_seq ?_
  refine rg_text ?_
  refine x_val rfl rfl rfl (v_move rfl) ?_
  refine x_val rfl rfl rfl (v_len_str Tryz.underlying9 rfl) ?_
  refine x_val rfl rfl rfl (v_move rfl) ?_
  refine x_val rfl rfl rfl (v_len_str Tryz.underlying9 rfl) ?_
  refine x_bool rfl rfl rfl (v_geq rfl rfl) ?_
  intro b9 hb9
  refine x_val rfl rfl rfl (v_move rfl) ?_
  refine x_if [] rfl rfl rfl rfl rfl (fun hg => by obtain ⟨hg0, _⟩ := hg; subst hg0; (try simp only [List.cons_append, List.nil_append, gvl_nil, gvl_t, gvl_f]); exact v_move rfl) ?_
  refine x_if [] rfl rfl rfl rfl rfl (fun hg => by obtain ⟨hg0, _⟩ := hg; subst hg0; (try simp only [List.cons_append, List.nil_append, gvl_nil, gvl_t, gvl_f]); exact v_move rfl) ?_
  refine x_if [] rfl rfl rfl rfl rfl (fun hg => by obtain ⟨hg0, _⟩ := hg; subst hg0; (try simp only [List.cons_append, List.nil_append, gvl_nil, gvl_t, gvl_f]); exact v_len_str Tryz.underlying9 rfl) ?_
  refine x_if [] rfl rfl rfl rfl rfl (fun hg => by obtain ⟨hg0, _⟩ := hg; subst hg0; (try simp only [List.cons_append, List.nil_append, gvl_nil, gvl_t, gvl_f]); have h1 := of_decide_eq_true hb9.symm; exact v_cut_to Tryz.underlying9 rfl rfl (by first | omega | (dsimp only; omega))) ?_
  refine x_if [] rfl rfl rfl rfl rfl (fun hg => by obtain ⟨hg0, _⟩ := hg; subst hg0; (try simp only [List.cons_append, List.nil_append, gvl_nil, gvl_t, gvl_f]); exact v_move rfl) ?_
  refine x_ifb [] rfl rfl rfl rfl rfl (fun hg => by obtain ⟨hg0, _⟩ := hg; subst hg0; (try simp only [List.cons_append, List.nil_append, gvl_nil, gvl_t, gvl_f]); exact v_seql rfl rfl) ?_
  intro b16 hb16
  refine x_bool rfl rfl rfl (v_and rfl rfl) ?_
  intro b17 hb17
  refine x_val rfl rfl rfl (v_assign rfl) ?_
  refine x_end ?_
  refine t_norm ?_
  refine w_ret ?_
  refine ret1 rfl rfl (fun w' hm => ⟨?_, hm.base (by simp)⟩)
  simp [hb17, hb16, hb9, pre]
set_option maxRecDepth 100000 in
theorem c_hasPrefix (s p : ByteArray) (w : World) :
    Calls Tryz.prog 84 #[.string s, .string p] w fun e w' => e = .returned (.bool (pre s p)) ∧ Later w w' := by
  refine enter (vs := [.string s, .string p]) Tryz.func84 rfl Tryz.ntmps84 rfl ?_
  refine w_seq ?_
  refine rg_text ?_
  refine x_val rfl rfl rfl (v_assign rfl) ?_
  refine x_end ?_
  refine t_norm ?_
  refine w_seq ?_
  refine rg_text ?_
  refine x_val rfl rfl rfl (v_move rfl) ?_
  refine x_val rfl rfl rfl (v_move rfl) ?_
  refine x_callb rfl rfl rfl Tryz.func96 (by kernel_rfl) rfl (fun w hw => c_hasPre _ _ w) ?_
  intro b7 hb7
  refine x_val rfl rfl rfl (v_assign rfl) ?_
  refine x_end ?_
  refine t_norm ?_
  refine w_ret ?_
  refine ret1 rfl rfl (fun w' hm => ⟨?_, hm.base (by simp)⟩)
  rw [hb7]
def openV (A : Option Addr) (own : List (Nat × Obj)) (s : ByteArray) : Option (Sg × Nat) → Prop
  | none => A = none ∧ own = []
  | some (g, a) => ∃ p, A = some ⟨p, 0, none⟩ ∧ own = [(p, Obj.cells (msgC g s a).toArray 121)]
set_option maxRecDepth 100000 in
theorem c_open (s : ByteArray) (w : World) (hs : s.size ≤ 200000000) :
    Calls Tryz.prog 67 #[.string s] w fun e w' => ∃ A own, e = .returned (.tuple #[.pointer A, .int .i64 (openR s).2.1, .int .i64 (openR s).2.2]) ∧ openV A own s (openR s).1 ∧ Mem w' own [(w, fun _ => True)] := by
  refine enter (vs := [.string s]) Tryz.func67 rfl Tryz.ntmps67 rfl ?_
  refine w_seq ?_
  refine rg_text ?_
  refine x_val rfl rfl rfl (v_assign rfl) ?_
  refine x_val rfl rfl rfl (v_assign rfl) ?_
  refine x_val rfl rfl rfl (v_assign rfl) ?_
  refine x_end ?_
  refine t_norm ?_
  refine w_seq ?_
  refine rg_text ?_
  refine x_callv rfl rfl rfl Tryz.func83 (by kernel_rfl) rfl (fun w1 hw1 => c_usual w1) ?_
  refine x_val rfl rfl rfl (v_move rfl) ?_
  refine x_val rfl rfl rfl (v_buildL (places := [(0, 4), (4, 1), (5, 1)]) Tryz.underlying121 zr121 (by kernel_rfl) rfl rfl) ?_
  refine x_box rfl rfl rfl rfl ?_
  intro p9
  refine x_val rfl rfl rfl (v_assign rfl) ?_
  refine x_end ?_
  refine t_norm ?_
  refine w_seq ?_
  refine w_seq ?_
  refine rg_text ?_
  refine x_val rfl rfl rfl (v_move rfl) ?_
  refine x_callb rfl rfl rfl Tryz.func84 (by kernel_rfl) rfl (fun w1 hw1 => c_hasPrefix _ _ w1) ?_
  intro b11 hb11
  refine x_bool rfl rfl rfl (v_not rfl) ?_
  intro b12 hb12
  refine x_end ?_
  refine t_norm ?_
  refine w_cond rfl (fun hc12 => ?_) (fun hc12 => ?_)
  · have hu : ¬unaP s := by rw [hb12, hb11, pre_una] at hc12; simpa using hc12
    have eO : openR s = (some (usualG, 0), 0, 0) := by unfold openR; rw [if_neg hu]
    refine w_seq ?_
    refine rg_text ?_
    refine x_val rfl rfl rfl (v_move rfl) ?_
    refine x_val rfl rfl rfl (v_assign rfl) ?_
    refine x_val rfl rfl rfl (v_assign rfl) ?_
    refine x_val rfl rfl rfl (v_assign rfl) ?_
    refine x_end ?_
    refine t_norm ?_
    refine w_ret ?_
    refine t_ret ?_
    refine ret3 rfl rfl rfl rfl (fun w' hm' => ⟨some ⟨p9, 0, none⟩, [(p9, Obj.cells (msgC usualG s 0).toArray 121)], by rw [eO], by rw [eO]; exact ⟨p9, rfl, rfl⟩, hm'⟩)
  · have hu : unaP s := by rw [hb12, hb11, pre_una] at hc12; simpa using hc12
    refine w_skip ?_
    refine t_norm ?_
    refine w_seq ?_
    refine w_seq ?_
    refine rg_text ?_
    refine x_val rfl rfl rfl (v_move rfl) ?_
    refine x_val rfl rfl rfl (v_len_str Tryz.underlying9 rfl) ?_
    refine x_bool rfl rfl rfl (v_lss rfl rfl) ?_
    intro b16 hb16
    refine x_end ?_
    refine t_norm ?_
    refine w_cond rfl (fun hc16 => ?_) (fun hc16 => ?_)
    · simp only [hb16, decide_eq_true_eq, decide_eq_false_iff_not, Bool.and_eq_true, Bool.or_eq_true, Bool.and_eq_false_iff, Bool.or_eq_false_iff, Bool.not_eq_true', Bool.not_eq_false', ne_eq, Decidable.not_not] at hc16
      have h9 : s.size < 9 := by omega
      have eO : openR s = (none, ((s.size : Nat) : Int), 10) := by unfold openR; rw [if_pos hu, if_pos h9]
      refine w_seq ?_
      refine rg_text ?_
      refine x_val rfl rfl rfl (v_move rfl) ?_
      refine x_val rfl rfl rfl (v_len_str Tryz.underlying9 rfl) ?_
      refine x_val rfl rfl rfl (v_assign rfl) ?_
      refine x_val rfl rfl rfl (v_assign rfl) ?_
      refine x_val rfl rfl rfl (v_assign rfl) ?_
      refine x_end ?_
      refine t_norm ?_
      refine w_ret ?_
      refine t_ret ?_
      refine ret3 rfl rfl rfl rfl (fun w' hm' => ⟨none, [], by rw [eO], by rw [eO]; exact ⟨rfl, rfl⟩, hm'.less (List.nil_sublist _) (fun _ h => h)⟩)
    · simp only [hb16, decide_eq_true_eq, decide_eq_false_iff_not, Bool.and_eq_true, Bool.or_eq_true, Bool.and_eq_false_iff, Bool.or_eq_false_iff, Bool.not_eq_true', Bool.not_eq_false', ne_eq, Decidable.not_not] at hc16
      have h9 : ¬s.size < 9 := by omega
      refine w_skip ?_
      refine t_norm ?_
      refine w_seq ?_
      refine rg_inv ([]) 17 (.flt 0 (.flt 1 (.flt 2 (.flt 3 (.flt 4 (.flt 5 (.flt 6 (.flt 7 (.flt 8 (.flt 9 (.flt 10 (.flt 11 (.flt 12 (.gr 13 (.flt 14 (.flt 15 (.gr 16 .done .nil))) .nil)))))))))))))) (List.nil_sublist _) (by kernel_rfl) (by kernel_rfl) ?_
      refine j_val rfl rfl (v_move rfl) ?_
      refine j_val rfl rfl (v_move rfl) ?_
      refine j_val rfl rfl (v_move rfl) ?_
      refine j_val rfl rfl (v_index (j := 3) Tryz.underlying9 rfl rfl (by omega)) ?_
      refine j_val rfl rfl (v_move rfl) ?_
      refine j_val rfl rfl (v_index (j := 4) Tryz.underlying9 rfl rfl (by omega)) ?_
      refine j_val rfl rfl (v_move rfl) ?_
      refine j_val rfl rfl (v_index (j := 6) Tryz.underlying9 rfl rfl (by omega)) ?_
      refine j_val rfl rfl (v_move rfl) ?_
      refine j_val rfl rfl (v_index (j := 8) Tryz.underlying9 rfl rfl (by omega)) ?_
      refine j_val rfl rfl (v_buildL (places := [(0, 1), (1, 1), (2, 1), (3, 1)]) Tryz.underlying119 zr119 (by kernel_rfl) rfl rfl) ?_
      refine j_val rfl rfl (v_nilCheck rfl) ?_
      refine j_val rfl rfl (v_fieldAddr (off' := 0) Tryz.underlying121 rfl sz119 (by decide) rfl rfl) ?_
      refine j_gr ?_ j_nil
      refine x_store (cs := msgC usualG s 0) (off := 0) [] rfl rfl rfl rfl sz119 rfl (by show 4 ≤ 6; decide) ?_
      refine x_end ?_
      refine j_end (List.nil_sublist _) ?_
      refine j_val rfl rfl (v_nilCheck rfl) ?_
      refine j_val rfl rfl (v_fieldAddr (off' := 5) Tryz.underlying121 rfl sz3 (by decide) rfl rfl) ?_
      refine j_gr ?_ j_nil
      refine x_store (cs := msgC (ownG s) s 0) (off := 5) [] rfl rfl rfl rfl sz3 rfl (by show 6 ≤ 6; decide) ?_
      refine x_end ?_
      refine j_end (List.nil_sublist _) ?_
      refine j_done ?_
      refine x_end ?_
      refine t_norm ?_
      refine w_seq ?_
      refine w_seq ?_
      refine w_state _ [(p9, Obj.cells (msgC (ownG s) s (9)).toArray 121)] _ ?_
      refine rg_text ?_
      refine x_val rfl rfl rfl (v_move rfl) ?_
      refine x_val rfl rfl rfl (v_nilCheck rfl) ?_
      refine x_val rfl rfl rfl (v_fieldAddr (off' := 0) Tryz.underlying121 rfl sz119 (by decide) rfl rfl) ?_
      refine x_val rfl rfl rfl (v_loadN (vs := (ownG s).cells) Tryz.underlying119 rfl sz119 rfl (fun j hj => at_ownL (vs := msgC (ownG s) s 9) (.head _) (by match j, hj with | 0, _ => rfl | 1, _ => rfl | 2, _ => rfl | 3, _ => rfl))) ?_
      refine x_callb rfl rfl rfl Tryz.func85 (by kernel_rfl) rfl (fun w1 hw1 => c_right (ownG s) w1) ?_
      intro b38 hb38
      refine x_bool rfl rfl rfl (v_not rfl) ?_
      intro b39 hb39
      refine x_end ?_
      refine t_norm ?_
      refine w_cond rfl (fun hc39 => ?_) (fun hc39 => ?_)
      · have hr : ¬rightS (ownG s) := by rw [hb39, hb38] at hc39; simpa using hc39
        have eO : openR s = (none, 3, 11) := by unfold openR; rw [if_pos hu, if_neg h9, if_neg hr]
        refine w_seq ?_
        refine rg_text ?_
        refine x_val rfl rfl rfl (v_assign rfl) ?_
        refine x_val rfl rfl rfl (v_assign rfl) ?_
        refine x_val rfl rfl rfl (v_assign rfl) ?_
        refine x_end ?_
        refine t_norm ?_
        refine w_ret ?_
        refine t_ret ?_
        refine ret3 rfl rfl rfl rfl (fun w' hm' => ⟨none, [], by rw [eO], by rw [eO]; exact ⟨rfl, rfl⟩, hm'.less (List.nil_sublist _) (fun _ h => h)⟩)
      · have hr : rightS (ownG s) := by rw [hb39, hb38] at hc39; simpa using hc39
        have eO : openR s = (some (ownG s, 9), 0, 0) := by unfold openR; rw [if_pos hu, if_neg h9, if_pos hr]
        refine w_skip ?_
        refine t_norm ?_
        refine w_seq ?_
        refine rg_text ?_
        refine x_val rfl rfl rfl (v_move rfl) ?_
        refine x_val rfl rfl rfl (v_assign rfl) ?_
        refine x_val rfl rfl rfl (v_assign rfl) ?_
        refine x_val rfl rfl rfl (v_assign rfl) ?_
        refine x_end ?_
        refine t_norm ?_
        refine w_ret ?_
        refine ret3 rfl rfl rfl rfl (fun w' hm' => ⟨some ⟨p9, 0, none⟩, [(p9, Obj.cells (msgC (ownG s) s 9).toArray 121)], by rw [eO], by rw [eO]; exact ⟨p9, rfl, rfl⟩, hm'⟩)

end Go.Proofs.YtdampedpgbnihaaGreatDoor

namespace Go.Proofs.YtdampedpgbnihaaGreatDoor
open Go.RowKit Go.PK
set_option linter.unusedVariables false
set_option linter.unusedSimpArgs false
theorem ap102 : (Tryz.prog.info? 102).map (fun j => (j.zero, j.size, j.bytes)) = some (some (.agg #[.string ⟨#[]⟩, .slice none 0 0]), 2, 40) := by kernel_rfl
set_option maxRecDepth 100000 in
theorem c_Parse (s : ByteArray) (w : World) (hs : s.size ≤ 200000000) :
    Calls Tryz.prog 40 #[.string s] w fun e w' => ∃ v, e = .returned (.tuple #[v, .int .i64 (parR s).2.1, .int .i64 (parR s).2.2]) ∧ Later w w' ∧ sliceRd tySeg (fun b => w.heap.size ≤ b) w' v (parR s).1 := by
  refine enter (vs := [.string s]) Tryz.func40 rfl Tryz.ntmps40 rfl ?_
  refine w_seq ?_
  refine rg_text ?_
  refine x_val rfl rfl rfl (v_assign rfl) ?_
  refine x_val rfl rfl rfl (v_assign rfl) ?_
  refine x_val rfl rfl rfl (v_assign rfl) ?_
  refine x_end ?_
  refine t_norm ?_
  refine w_seq ?_
  refine rg_text ?_
  refine x_val rfl rfl rfl (v_move rfl) ?_
  refine x_own (τ := Option Addr × List (Nat × Obj)) (fun q => .tuple #[.pointer q.1, .int .i64 (openR s).2.1, .int .i64 (openR s).2.2]) (fun q => openV q.1 q.2 s (openR s).1) (fun q => q.2) rfl rfl rfl Tryz.func67 (by kernel_rfl) rfl (fun w1 hw1 => (c_open s w1 hs).mono fun e w2 ⟨A0, own0, h1, h2, h3⟩ => ⟨(A0, own0), h1, h3.base (by simp), h2, hw1.join h3⟩) ?_
  rintro ⟨A0, own0⟩ hop
  dsimp only at hop
  have eR := parR_open s
  refine x_val rfl rfl rfl (v_move rfl) ?_
  refine x_val rfl rfl rfl (v_extract rfl rfl) ?_
  refine x_val rfl rfl rfl (v_extract rfl rfl) ?_
  refine x_val rfl rfl rfl (v_extract rfl rfl) ?_
  refine x_val rfl rfl rfl (v_assign rfl) ?_
  refine x_val rfl rfl rfl (v_assign rfl) ?_
  refine x_val rfl rfl rfl (v_assign rfl) ?_
  refine x_end ?_
  refine t_norm ?_
  refine w_seq ?_
  refine w_seq ?_
  refine rg_text ?_
  refine x_val rfl rfl rfl (v_move rfl) ?_
  refine x_bool rfl rfl rfl (v_neq rfl rfl) ?_
  intro b21 hb21
  refine x_end ?_
  refine t_norm ?_
  refine w_cond rfl (fun hc21 => ?_) (fun hc21 => ?_)
  · simp only [hb21, decide_eq_true_eq, decide_eq_false_iff_not, Bool.and_eq_true, Bool.or_eq_true, Bool.and_eq_false_iff, Bool.or_eq_false_iff, Bool.not_eq_true', Bool.not_eq_false', ne_eq, Decidable.not_not] at hc21
    have hon : (openR s).1 = none := by
      cases ho : (openR s).1 with
      | none => rfl
      | some q => obtain ⟨g, a⟩ := q; exact absurd (by rw [(openR_le s ho).2]) hc21
    rw [hon] at eR
    refine w_seq ?_
    refine rg_text ?_
    refine x_val rfl rfl rfl (v_move rfl) ?_
    refine x_val rfl rfl rfl (v_move rfl) ?_
    refine x_val rfl rfl rfl (v_assign rfl) ?_
    refine x_val rfl rfl rfl (v_assign rfl) ?_
    refine x_val rfl rfl rfl (v_assign rfl) ?_
    refine x_end ?_
    refine t_norm ?_
    refine w_ret ?_
    refine t_ret ?_
    refine ret3 rfl rfl rfl rfl (fun w' hm => ⟨_, by rw [eR]; rfl, hm.base (by simp), by rw [eR]; exact sliceRd_nil⟩)
  · simp only [hb21, decide_eq_true_eq, decide_eq_false_iff_not, Bool.and_eq_true, Bool.or_eq_true, Bool.and_eq_false_iff, Bool.or_eq_false_iff, Bool.not_eq_true', Bool.not_eq_false', ne_eq, Decidable.not_not] at hc21
    obtain ⟨g, a, ho⟩ : ∃ g a, (openR s).1 = some (g, a) := by
      cases ho : (openR s).1 with
      | none => have := openR_none s ho; omega
      | some q => exact ⟨q.1, q.2, rfl⟩
    rw [ho] at hop eR
    obtain ⟨p, rfl, rfl⟩ := hop
    have ha := (openR_le s ho).1
    dsimp only at eR
    refine w_skip ?_
    refine t_norm ?_
    refine w_seq ?_
    refine rg_text ?_
    refine x_val rfl rfl rfl (v_assign rfl) ?_
    refine x_end ?_
    refine t_norm ?_
    refine w_seq ?_
    refine w_seq ?_
    refine rg_text ?_
    refine x_val rfl rfl rfl (v_move rfl) ?_
    refine x_turnf (τ := Unit) (v := .tuple #[]) (fun _ => True) (fun _ => (p, Obj.cells (msgC g s (skipP s a)).toArray 121) :: []) rfl rfl Tryz.func68 (by kernel_rfl) rfl (fun w1 hw1 => (c_skip (l1 := []) g s a w1 hw1 hs ha).mono fun e w2 h => ⟨h.1, (), trivial, h.2⟩) ?_
    intro _ _
    refine x_end ?_
    refine t_norm ?_
    refine w_block ?_
    refine w_fix (rowO 102 none ++ (p, Obj.cells (msgC g s (skipP s a)).toArray 121) :: []) (List.Sublist.refl _) (fun w0 hm0 => ?_)
    have hska := skip_skip (s := s) _ a rfl
    refine w_loop (σ := Nat × List Seg × RowS × World) (fun x => x.1 ≤ s.size ∧ skipP s x.1 = x.1 ∧ parP s g x.1 x.2.1 = parP s g a [] ∧ x.2.1.length ≤ 10000 ∧ x.2.1.length ≤ x.1 ∧ RowT tySeg (newD w (rowO 102 x.2.2.1 ++ (p, Obj.cells (msgC g s (x.1)).toArray 121) :: [])) x.2.2.2 x.2.2.1 x.2.1) (fun x => [(0, Value.string s), (5, .pointer (some ⟨p, 0, none⟩)), (8, rowV x.2.2.1 x.2.1.length)]) (fun x => rowO 102 x.2.2.1 ++ (p, Obj.cells (msgC g s (x.1)).toArray 121) :: []) (fun x => (x.2.2.2, notOwn (rowO 102 x.2.2.1 ++ (p, Obj.cells (msgC g s (x.1)).toArray 121) :: [])) :: [(w, fun _ => True)]) (fun x => s.size - x.1) ((skipP s a, [], none, w0)) (⟨(skip_rng ha).2, hska, by dsimp only; rw [par_eq s g _ _ (skip_rng ha).2, par_eq s g a _ ha, hska], Nat.zero_le _, Nat.zero_le _, RowT.nil⟩) (l_start (by repeat (first | exact Sub.nil | refine Sub.cons rfl ?_)) (fun _ h => h)) ?_
    rintro ⟨x, xs, R, ws⟩ ⟨hx, hsk, hP, hn, hnx, hT⟩
    refine w_state ([(0, Value.string s), (5, .pointer (some ⟨p, 0, none⟩)), (8, rowV R xs.length)]) (rowO 102 R ++ (p, Obj.cells (msgC g s (x)).toArray 121) :: []) ((ws, notOwn (rowO 102 R ++ (p, Obj.cells (msgC g s (x)).toArray 121) :: [])) :: [(w, fun _ => True)]) ?_
    dsimp only at hx hsk hP hn hnx hT
    have hpe := par_eq s g x xs hx
    rw [hsk, hP] at hpe
    refine w_seq ?_
    refine w_seq ?_
    refine rg_text ?_
    refine x_val rfl rfl rfl (v_move rfl) ?_
    refine x_val rfl rfl rfl (v_nilCheck rfl) ?_
    refine x_val rfl rfl rfl (v_fieldAddr Tryz.underlying121 rfl sz3 (by decide) rfl rfl) ?_
    refine x_val rfl rfl rfl (v_load Tryz.underlying3 rfl rfl (at_ownL (vs := msgC g s (x)) (List.mem_append_right _ (.head _)) rfl)) ?_
    refine x_val rfl rfl rfl (v_move rfl) ?_
    refine x_val rfl rfl rfl (v_len_str Tryz.underlying9 rfl) ?_
    refine x_bool rfl rfl rfl (v_lss rfl rfl) ?_
    intro b32 hb32
    refine x_end ?_
    refine t_norm ?_
    refine w_cond rfl (fun hc32 => ?_) (fun hc32 => ?_)
    · simp only [hb32, decide_eq_true_eq, decide_eq_false_iff_not, Bool.and_eq_true, Bool.or_eq_true, Bool.and_eq_false_iff, Bool.or_eq_false_iff, Bool.not_eq_true', Bool.not_eq_false', ne_eq, Decidable.not_not] at hc32
      have hlt : x < s.size := by omega
      rw [if_pos hlt] at hpe
      refine w_skip ?_
      refine t_norm ?_
      refine w_seq ?_
      refine w_block ?_
      refine w_seq ?_
      refine w_seq ?_
      refine rg_text ?_
      refine x_val rfl rfl rfl (v_move rfl) ?_
      refine x_val rfl rfl rfl (v_len_slice Tryz.underlying64 rfl) ?_
      refine x_bool rfl rfl rfl (v_eql rfl rfl) ?_
      intro b37 hb37
      refine x_end ?_
      refine t_norm ?_
      refine w_cond rfl (fun hc37 => ?_) (fun hc37 => ?_)
      · simp only [hb37, decide_eq_true_eq, decide_eq_false_iff_not, Bool.and_eq_true, Bool.or_eq_true, Bool.and_eq_false_iff, Bool.or_eq_false_iff, Bool.not_eq_true', Bool.not_eq_false', ne_eq, Decidable.not_not] at hc37
        have h1 : xs.length = 10000 := by omega
        rw [if_pos h1] at hpe
        refine w_seq ?_
        refine rg_draw 7 [(true, 0), (true, 1), (true, 2), (true, 3), (true, 4), (true, 5), (true, 6)] (by kernel_rfl) (by kernel_rfl) ?_
        refine x_val rfl rfl rfl (v_move rfl) ?_
        refine x_val rfl rfl rfl (v_nilCheck rfl) ?_
        refine x_val rfl rfl rfl (v_fieldAddr Tryz.underlying121 rfl sz3 (by decide) rfl rfl) ?_
        refine x_val rfl rfl rfl (v_load Tryz.underlying3 rfl rfl (at_ownL (vs := msgC g s (x)) (List.mem_append_right _ (.head _)) rfl)) ?_
        refine x_val rfl rfl rfl (v_assign rfl) ?_
        refine x_val rfl rfl rfl (v_assign rfl) ?_
        refine x_val rfl rfl rfl (v_assign rfl) ?_
        refine x_end ?_
        refine t_norm ?_
        refine w_ret ?_
        refine t_ret ?_
        refine b_ret ?_
        refine t_ret ?_
        refine t_ret ?_
        refine b_ret ?_
        refine t_ret ?_
        have eP : parR s = ([], ((x : Nat) : Int), 2) := by rw [eR]; exact hpe
        refine ret3 rfl rfl rfl rfl (fun w' hm => ⟨_, by rw [eP] <;> rfl, hm.base (by simp), by rw [eP]; exact sliceRd_nil⟩)
      · simp only [hb37, decide_eq_true_eq, decide_eq_false_iff_not, Bool.and_eq_true, Bool.or_eq_true, Bool.and_eq_false_iff, Bool.or_eq_false_iff, Bool.not_eq_true', Bool.not_eq_false', ne_eq, Decidable.not_not] at hc37
        have h1 : ¬xs.length = 10000 := by omega
        rw [if_neg h1] at hpe
        refine w_skip ?_
        refine t_norm ?_
        refine w_seq ?_
        refine rg_text ?_
        refine x_val rfl rfl rfl (v_move rfl) ?_
        refine x_turnf (τ := Unit) (v := .tuple #[.string (tagR s g x).1.1, .int .i64 (tagR s g x).1.2.1, .int .i64 (tagR s g x).1.2.2]) (fun _ => True) (fun _ => rowO 102 R ++ (p, Obj.cells (msgC g s ((tagR s g x).2)).toArray 121) :: []) rfl rfl Tryz.func69 (by kernel_rfl) rfl (fun w1 hw1 => (c_tag g s x w1 hw1 hs hx).mono fun e w2 h => ⟨h.1, (), trivial, h.2⟩) ?_
        intro _ _
        refine x_val rfl rfl rfl (v_move rfl) ?_
        refine x_val rfl rfl rfl (v_extract rfl rfl) ?_
        refine x_val rfl rfl rfl (v_extract rfl rfl) ?_
        refine x_val rfl rfl rfl (v_extract rfl rfl) ?_
        refine x_val rfl rfl rfl (v_assign rfl) ?_
        refine x_val rfl rfl rfl (v_assign rfl) ?_
        refine x_val rfl rfl rfl (v_assign rfl) ?_
        refine x_end ?_
        refine t_norm ?_
        refine w_seq ?_
        refine w_seq ?_
        refine rg_text ?_
        refine x_val rfl rfl rfl (v_move rfl) ?_
        refine x_bool rfl rfl rfl (v_neq rfl rfl) ?_
        intro b49 hb49
        refine x_end ?_
        refine t_norm ?_
        refine w_cond rfl (fun hc49 => ?_) (fun hc49 => ?_)
        · simp only [hb49, decide_eq_true_eq, decide_eq_false_iff_not, Bool.and_eq_true, Bool.or_eq_true, Bool.and_eq_false_iff, Bool.or_eq_false_iff, Bool.not_eq_true', Bool.not_eq_false', ne_eq, Decidable.not_not] at hc49
          rw [if_pos hc49] at hpe
          refine w_seq ?_
          refine rg_text ?_
          refine x_val rfl rfl rfl (v_move rfl) ?_
          refine x_val rfl rfl rfl (v_move rfl) ?_
          refine x_val rfl rfl rfl (v_assign rfl) ?_
          refine x_val rfl rfl rfl (v_assign rfl) ?_
          refine x_val rfl rfl rfl (v_assign rfl) ?_
          refine x_end ?_
          refine t_norm ?_
          refine w_ret ?_
          refine t_ret ?_
          refine b_ret ?_
          refine t_ret ?_
          refine t_ret ?_
          refine b_ret ?_
          refine t_ret ?_
          have eP : parR s = ([], (tagR s g x).1.2.1, (tagR s g x).1.2.2) := by rw [eR]; exact hpe
          refine ret3 rfl rfl rfl rfl (fun w' hm => ⟨_, by rw [eP] <;> rfl, hm.base (by simp), by rw [eP]; exact sliceRd_nil⟩)
        · simp only [hb49, decide_eq_true_eq, decide_eq_false_iff_not, Bool.and_eq_true, Bool.or_eq_true, Bool.and_eq_false_iff, Bool.or_eq_false_iff, Bool.not_eq_true', Bool.not_eq_false', ne_eq, Decidable.not_not] at hc49
          have hno : ¬(tagR s g x).1.2.2 ≠ 0 := by simpa using hc49
          rw [if_neg hno] at hpe
          obtain ⟨e1, e2, e3, e4⟩ := tagR_ok (s := s) (g := g) (a := x) (by simpa using hno)
          have e5 := tagAt_lt e2 e3
          rw [e1] at hpe ⊢
          dsimp only at hpe ⊢
          refine w_skip ?_
          refine t_norm ?_
          refine w_seq ?_
          refine rg_text ?_
          refine x_val rfl rfl rfl (v_move rfl) ?_
          refine x_turn_n (τ := Nat) (fun z v wa wb => w.heap.size ≤ wa.heap.size ∧ (∀ k, wa.heap.size ≤ k → notOwn (rowO 102 R ++ (p, Obj.cells (msgC g s (z)).toArray 121) :: []) k) ∧ ∃ u, v = .tuple #[u, .bool (elP s g (byteAt s (x + 3)) (x + 3 + 1) []).isSome] ∧ ∀ l z', elP s g (byteAt s (x + 3)) (x + 3 + 1) [] = some (l, z') → z = z' ∧ sliceRd (tySlice tyStr) (fun b => wa.heap.size ≤ b) wb u l) (fun z => rowO 102 R ++ (p, Obj.cells (msgC g s (z)).toArray 121) :: []) rfl rfl Tryz.func70 (by kernel_rfl) rfl (fun w1 hw1 => (c_elements g s (x + 3) w1 hw1 hs e5 e4).mono fun e w2 ⟨v, h1, z, h2, h3⟩ => ⟨v, h1, z, ⟨(hw1.base (by simp)).size, fun k hk => notOwn_new hw1 k hk, h2⟩, h3⟩) ?_
          rintro v54 z wa wb hwa ⟨hwl, hno2, u54, rfl, hel⟩ hwb
          have hE : ∃ q, elP s g (byteAt s (x + 3)) (x + 3 + 1) [] = q := ⟨_, rfl⟩
          obtain ⟨q, hE⟩ := hE
          rw [hE] at hpe hel ⊢
          refine x_val rfl rfl rfl (v_move rfl) ?_
          refine x_val rfl rfl rfl (v_extract rfl rfl) ?_
          refine x_bool rfl rfl rfl (v_extract rfl rfl) ?_
          intro b56 hb56
          refine x_val rfl rfl rfl (v_assign rfl) ?_
          refine x_val rfl rfl rfl (v_assign rfl) ?_
          refine x_end ?_
          refine t_norm ?_
          refine w_seq ?_
          refine w_seq ?_
          refine rg_text ?_
          refine x_val rfl rfl rfl (v_move rfl) ?_
          refine x_bool rfl rfl rfl (v_not rfl) ?_
          intro b58 hb58
          refine x_end ?_
          refine t_norm ?_
          refine w_cond rfl (fun hc58 => ?_) (fun hc58 => ?_)
          · simp only [hb58, hb56, decide_eq_true_eq, decide_eq_false_iff_not, Bool.and_eq_true, Bool.or_eq_true, Bool.and_eq_false_iff, Bool.or_eq_false_iff, Bool.not_eq_true', Bool.not_eq_false', ne_eq, Decidable.not_not] at hc58
            have hq : q = none := by cases q with | none => rfl | some y => simp at hc58
            subst hq
            refine w_seq ?_
            refine rg_text ?_
            refine x_val rfl rfl rfl (v_move rfl) ?_
            refine x_val rfl rfl rfl (v_len_str Tryz.underlying9 rfl) ?_
            refine x_val rfl rfl rfl (v_assign rfl) ?_
            refine x_val rfl rfl rfl (v_assign rfl) ?_
            refine x_val rfl rfl rfl (v_assign rfl) ?_
            refine x_end ?_
            refine t_norm ?_
            refine w_ret ?_
            refine t_ret ?_
            refine b_ret ?_
            refine t_ret ?_
            refine t_ret ?_
            refine b_ret ?_
            refine t_ret ?_
            have eP : parR s = ([], ((s.size : Nat) : Int), 10) := by rw [eR]; exact hpe
            refine ret3 rfl rfl rfl rfl (fun w' hm => ⟨_, by rw [eP] <;> rfl, hm.base (by simp), by rw [eP]; exact sliceRd_nil⟩)
          · simp only [hb58, hb56, decide_eq_true_eq, decide_eq_false_iff_not, Bool.and_eq_true, Bool.or_eq_true, Bool.and_eq_false_iff, Bool.or_eq_false_iff, Bool.not_eq_true', Bool.not_eq_false', ne_eq, Decidable.not_not] at hc58
            obtain ⟨l, z2, rfl⟩ : ∃ l z2, q = some (l, z2) := by cases q with | none => simp at hc58 | some y => exact ⟨y.1, y.2, rfl⟩
            obtain ⟨rfl, hl⟩ := hel l z2 rfl
            obtain ⟨Au, cu, rfl, hu1, hu2, _⟩ := id hl
            have hadv := el_adv (by omega) hE
            obtain ⟨css, hcl, hrow, hrd⟩ := hT
            refine w_skip ?_
            refine t_norm ?_
            refine rg_text ?_
            refine x_val rfl rfl rfl (v_move rfl) ?_
            refine x_val rfl rfl rfl (v_move rfl) ?_
            refine x_val rfl rfl rfl (v_move rfl) ?_
            refine x_val rfl rfl rfl (v_buildL (places := [(0, 1), (1, 1)]) Tryz.underlying102 zr102 (by kernel_rfl) rfl rfl) ?_
            refine x_buildSliceL (cs := [Value.string (tagAt s x), .slice Au l.length cu]) rfl rfl rfl Tryz.underlying64 sz102 zr102 rfl rfl rfl ?_
            intro p65
            refine x_append (e := 102) [(p65, Obj.cells [Value.string (tagAt s x), .slice Au l.length cu].toArray 102)] (l2 := [(p, Obj.cells (msgC g s (z)).toArray 121)]) R (len := xs.length) (xs := css.flatten) rfl rfl rfl rfl rfl hrow Tryz.underlying64 ap102 rfl rfl (m := 1) (news := [Value.string (tagAt s x), .slice Au l.length cu]) (fun i hi => at_ownL (vs := [Value.string (tagAt s x), .slice Au l.length cu]) (.head _) (by rw [Nat.zero_add]; exact List.getElem?_eq_getElem hi)) rfl (by simp only [maxLen]; omega) (by omega) ?_
            intro R' hR'
            refine x_val rfl rfl rfl (v_assign rfl) ?_
            refine x_end ?_
            refine b_norm ?_
            refine t_norm ?_
            refine rg_text ?_
            refine x_val rfl rfl rfl (v_move rfl) ?_
            refine x_turnf (τ := Unit) (v := .tuple #[]) (fun _ => True) (fun _ => [(p65, Obj.cells [Value.string (tagAt s x), .slice Au l.length cu].toArray 102)] ++ (rowO 102 R' ++ (p, Obj.cells (msgC g s (skipP s z)).toArray 121) :: [])) rfl rfl Tryz.func68 (by kernel_rfl) rfl (fun w1 hw1 => (c_skip (l1 := (p65, Obj.cells [Value.string (tagAt s x), .slice Au l.length cu].toArray 102) :: rowO 102 R') g s z w1 (hw1.to rfl) hs hadv.2).mono fun e w2 h => ⟨h.1, (), trivial, h.2⟩) ?_
            intro _ _
            refine x_end ?_
            refine s_fix (rowO 102 R' ++ (p, Obj.cells (msgC g s (skipP s z)).toArray 121) :: []) (List.sublist_cons_self _ _) (fun w0 hm0 => ?_)
            have hse := skip_skip (s := s) _ z rfl
            have hsr := skip_rng (s := s) hadv.2
            have hok : okS (tagAt s x) := by unfold okS; omega
            have hT' := snocN (T := tySeg) (D := newD w (rowO 102 R' ++ (p, Obj.cells (msgC g s (skipP s z)).toArray 121) :: [])) (ws := w0) (x := ⟨tagAt s x, l⟩) rfl hcl (fun j h1 h2 => tySeg.keep (hrd j h1 h2) (Kept.frz hm0 (List.sublist_cons_self _ _) (by simp))) hR' (tySeg_mk rfl hok (hl.keep (Kept.made2 (hm0.less (List.sublist_cons_self _ _) (fun _ h => h)) (.head _) hno2 hwl)))
            exact l_norm (x := (x, xs, R, ws)) (μ := fun q : Nat × List Seg × RowS × World => s.size - q.1) (skipP s z, xs ++ [⟨tagAt s x, l⟩], R', w0) ⟨hsr.2, hse, by dsimp only; rw [hpe, par_eq s g _ _ hsr.2]; dsimp only; rw [par_eq s g z _ hadv.2, hse], by simp; omega, by simp; omega, hT'⟩ (by simp only; omega) (by dsimp only; rw [List.length_append, List.length_singleton]; repeat (first | exact Sub.nil | refine Sub.cons rfl ?_)) (fun w1 h => h.less (List.Sublist.refl _) (fun q hq => by simp at hq ⊢; rcases hq with h | h; (· exact .inl h); simp [h]))
    · simp only [hb32, decide_eq_true_eq, decide_eq_false_iff_not, Bool.and_eq_true, Bool.or_eq_true, Bool.and_eq_false_iff, Bool.or_eq_false_iff, Bool.not_eq_true', Bool.not_eq_false', ne_eq, Decidable.not_not] at hc32
      have hlt : ¬x < s.size := by omega
      rw [if_neg hlt] at hpe
      refine w_exit ?_
      refine t_exit ?_
      refine t_exit ?_
      refine b_hit ?_
      refine t_norm ?_
      refine w_seq ?_
      refine rg_text ?_
      refine x_val rfl rfl rfl (v_move rfl) ?_
      refine x_val rfl rfl rfl (v_assign rfl) ?_
      refine x_val rfl rfl rfl (v_assign rfl) ?_
      refine x_val rfl rfl rfl (v_assign rfl) ?_
      refine x_end ?_
      refine t_norm ?_
      refine w_ret ?_
      refine ret3 rfl rfl rfl rfl (fun w' hm => ?_)
      have eP : parR s = (xs, 0, 0) := by rw [eR]; exact hpe
      refine ⟨_, by rw [eP] <;> rfl, hm.base (by simp), ?_⟩
      rw [eP]
      exact (hT.keep (Kept.frz hm (List.Sublist.refl _) (.head _))).rd (e := 102) hm (fun p hp => List.mem_append_left _ hp) (fun _ h => h.1) (fun p hp => hm.newer (by simp) (List.mem_append_left _ hp)) rfl

end Go.Proofs.YtdampedpgbnihaaGreatDoor

namespace Go.Proofs.YtdampedpgbnihaaGreatDoor
open Go.RowKit Go.PK
set_option linter.unusedVariables false
set_option linter.unusedSimpArgs false

end Go.Proofs.YtdampedpgbnihaaGreatDoor

namespace Go.Proofs.YtdampedpgbnihaaGreatDoor
open Go.RowKit Go.PK
set_option linter.unusedVariables false
set_option linter.unusedSimpArgs false

end Go.Proofs.YtdampedpgbnihaaGreatDoor

namespace Go.Proofs.YtdampedpgbnihaaGreatDoor
open Go.RowKit Go.PK
set_option linter.unusedVariables false
set_option linter.unusedSimpArgs false

end Go.Proofs.YtdampedpgbnihaaGreatDoor

namespace Go.Proofs.YtdampedpgbnihaaGreatDoor
open Go.RowKit Go.PK
set_option linter.unusedVariables false
set_option linter.unusedSimpArgs false
theorem take_eq_succ {α : Type} {xs ys : List α} {k : Nat} (h1 : k < xs.length) (h2 : k < ys.length) (h : xs.take k = ys.take k) (he : xs[k] = ys[k]) : xs.take (k + 1) = ys.take (k + 1) := by
  rw [List.take_succ_eq_append_getElem h1, List.take_succ_eq_append_getElem h2, h, he]
theorem take_all {α : Type} {xs ys : List α} (h : xs.length = ys.length) (ht : xs.take xs.length = ys.take xs.length) : xs = ys := by
  rw [List.take_length] at ht; rw [ht, h, List.take_length]
theorem seg_ext {x y : Seg} (h1 : x.tag = y.tag) (h2 : x.els = y.els) : x = y := by cases x; cases y; cases h1; cases h2; rfl
theorem ne_at {α : Type} {xs ys : List α} {k : Nat} (h1 : k < xs.length) (h2 : k < ys.length) (he : xs[k] ≠ ys[k]) : xs ≠ ys := fun h => by subst h; exact he rfl

end Go.Proofs.YtdampedpgbnihaaGreatDoor

namespace Go.Proofs.YtdampedpgbnihaaGreatDoor
open Go.RowKit Go.PK
set_option linter.unusedVariables false
set_option linter.unusedSimpArgs false

end Go.Proofs.YtdampedpgbnihaaGreatDoor

namespace Go.Proofs.YtdampedpgbnihaaGreatDoor
open Go.RowKit Go.PK
set_option linter.unusedVariables false
set_option linter.unusedSimpArgs false

end Go.Proofs.YtdampedpgbnihaaGreatDoor

namespace Go.Proofs.YtdampedpgbnihaaGreatDoor
open Go.RowKit Go.PK
set_option linter.unusedVariables false
set_option linter.unusedSimpArgs false
set_option maxRecDepth 100000 in
theorem c_esc (t : ByteArray) (w : World) (hT : (escL (bl t)).length ≤ 2000000000000) (ht : t.size ≤ 4000000000000) :
    Calls Tryz.prog 52 #[.string t] w fun e w' => e = .returned (.string ⟨(escL (bl t)).toArray⟩) ∧ Later w w' := by
  refine enter (vs := [.string t]) Tryz.func52 rfl Tryz.ntmps52 rfl ?_
  refine w_seq ?_
  refine rg_text ?_
  refine x_val rfl rfl rfl (v_assign rfl) ?_
  refine x_end ?_
  refine t_norm ?_
  refine w_seq ?_
  refine rg_text ?_
  refine x_val rfl rfl rfl (v_assign rfl) ?_
  refine x_end ?_
  refine t_norm ?_
  refine w_seq ?_
  refine w_seq ?_
  refine rg_text ?_
  refine x_val rfl rfl rfl (v_assign rfl) ?_
  refine x_end ?_
  refine t_norm ?_
  refine w_block ?_
  refine w_loop (σ := Nat × List UInt8 × RowS) (fun x => x.1 ≤ t.size ∧ x.2.1 ++ escL ((bl t).drop x.1) = escL (bl t) ∧ rowOK 1 x.2.2 x.2.1.length (byC x.2.1)) (fun x => [(0, Value.string t), (3, rowV x.2.2 x.2.1.length), (4, Value.int .i64 (x.1 : Nat))]) (fun x => rowO 5 x.2.2) (fun x => [(w, fun _ => True)]) (fun x => t.size - x.1) ((0, [], none)) (⟨Nat.zero_le _, rfl, rowOK_nil⟩) (l_start (by repeat (first | exact Sub.nil | refine Sub.cons rfl ?_)) (fun _ h => h)) ?_
  rintro ⟨k, bs, r⟩ ⟨hk, hB, hr⟩
  refine w_state ([(0, Value.string t), (3, rowV r bs.length), (4, Value.int .i64 (k : Nat))]) (rowO 5 r) ([(w, fun _ => True)]) ?_
  dsimp only at hk hB hr
  have hlen := len_le hB hT
  refine w_seq ?_
  refine w_seq ?_
  refine rg_text ?_
  refine x_val rfl rfl rfl (v_move rfl) ?_
  refine x_val rfl rfl rfl (v_move rfl) ?_
  refine x_val rfl rfl rfl (v_len_str Tryz.underlying9 rfl) ?_
  refine x_bool rfl rfl rfl (v_lss rfl rfl) ?_
  intro b9 hb9
  refine x_end ?_
  refine t_norm ?_
  refine w_cond rfl (fun hc9 => ?_) (fun hc9 => ?_)
  · simp only [hb9, decide_eq_true_eq, decide_eq_false_iff_not, Bool.and_eq_true, Bool.or_eq_true, Bool.and_eq_false_iff, Bool.or_eq_false_iff, Bool.not_eq_true', Bool.not_eq_false', ne_eq, Decidable.not_not] at hc9
    have hkl : k < t.size := by omega
    rw [esc_drop hkl] at hB
    refine w_skip ?_
    refine t_norm ?_
    refine w_seq ?_
    refine w_block ?_
    refine w_seq ?_
    refine rg_text ?_
    refine x_val rfl rfl rfl (v_move rfl) ?_
    refine x_val rfl rfl rfl (v_move rfl) ?_
    refine x_val rfl rfl rfl (v_index Tryz.underlying9 rfl rfl (hkl)) ?_
    refine x_callb rfl rfl rfl Tryz.func80 (by kernel_rfl) rfl (fun w1 hw1 => c_rsign _ w1) ?_
    intro b15 hb15
    refine x_val rfl rfl rfl (v_assign rfl) ?_
    refine x_end ?_
    refine t_norm ?_
    refine w_seq ?_
    refine w_seq ?_
    refine rg_text ?_
    refine x_val rfl rfl rfl (v_move rfl) ?_
    refine x_end ?_
    refine t_norm ?_
    refine w_cond rfl (fun hc16 => ?_) (fun hc16 => ?_)
    · have hsg : signB (byteAt t k) = true := by rw [← hb15]; exact hc16
      unfold escB at hB
      rw [if_pos hsg] at hB
      refine rg_text ?_
      refine x_val rfl rfl rfl (v_move rfl) ?_
      refine x_buildSliceL rfl rfl rfl Tryz.underlying138 sz5 zr5 rfl rfl rfl ?_
      intro p18
      refine x_append (e := 5) [(p18, _)] (l2 := []) r (len := bs.length) (xs := byC bs) rfl rfl rfl rfl (by simp only [List.append_nil]; rfl) hr Tryz.underlying138 ap5 rfl rfl (m := 1) (news := byC [63]) (fun i hi => at_ownL (vs := byC [63]) (.head _) (by rw [Nat.zero_add]; exact List.getElem?_eq_getElem hi)) rfl (by simp only [maxLen]; omega) (by omega) ?_
      intro r1 hr1
      rw [List.append_nil]
      refine x_val rfl rfl rfl (v_assign rfl) ?_
      refine x_end ?_
      refine t_norm ?_
      refine rg_text ?_
      refine x_val rfl rfl rfl (v_move rfl) ?_
      refine x_val rfl rfl rfl (v_move rfl) ?_
      refine x_val rfl rfl rfl (v_move rfl) ?_
      refine x_val rfl rfl rfl (v_index Tryz.underlying9 rfl rfl (hkl)) ?_
      refine x_buildSliceL rfl rfl rfl Tryz.underlying138 sz5 zr5 rfl rfl rfl ?_
      intro p24
      refine x_append (e := 5) [(p24, _), (p18, Obj.cells (byC [63]).toArray 5)] (l2 := []) r1 (len := bs.length + 1) (xs := byC bs ++ byC [63]) rfl rfl rfl rfl (by simp only [List.append_nil]; rfl) hr1 Tryz.underlying138 ap5 rfl rfl (m := 1) (news := byC [byteAt t k]) (fun i hi => at_ownL (vs := byC [byteAt t k]) (.head _) (by rw [Nat.zero_add]; exact List.getElem?_eq_getElem hi)) rfl (by simp only [maxLen]; omega) (by omega) ?_
      intro r2 hr2
      rw [List.append_nil]
      refine x_val rfl rfl rfl (v_assign rfl) ?_
      refine x_end ?_
      refine b_norm ?_
      refine t_norm ?_
      refine rg_text ?_
      refine x_val rfl rfl rfl (v_move rfl) ?_
      refine x_val rfl rfl rfl (v_addi rfl rfl rfl (by first | omega | (dsimp only; omega))) ?_
      refine x_val rfl rfl rfl (v_assign rfl) ?_
      refine x_end ?_
      have hl3 : ((bs ++ [63]) ++ [byteAt t k] : List UInt8).length = bs.length + 1 + 1 := by simp
      have hr3 : rowOK 1 r2 ((bs ++ [63]) ++ [byteAt t k]).length (byC ((bs ++ [63]) ++ [byteAt t k])) := by rw [byC_app, byC_app, List.length_append, List.length_append]; exact hr2
      exact l_norm (k + 1, (bs ++ [63]) ++ [byteAt t k], r2) ⟨by dsimp only; omega, by dsimp only; rw [← hB]; simp only [List.append_assoc, List.cons_append, List.nil_append], hr3⟩ (by simp only; omega) (by dsimp only; rw [hl3]; repeat (first | exact Sub.nil | refine Sub.cons rfl ?_)) (fun w1 h => h.less ((List.sublist_cons_self _ _).trans (List.sublist_cons_self _ _)) (fun _ h => h))
    · have hsg : ¬signB (byteAt t k) = true := by rw [← hb15, hc16]; exact Bool.false_ne_true
      unfold escB at hB
      rw [if_neg hsg] at hB
      refine w_skip ?_
      refine t_norm ?_
      refine rg_text ?_
      refine x_val rfl rfl rfl (v_move rfl) ?_
      refine x_val rfl rfl rfl (v_move rfl) ?_
      refine x_val rfl rfl rfl (v_move rfl) ?_
      refine x_val rfl rfl rfl (v_index Tryz.underlying9 rfl rfl (hkl)) ?_
      refine x_buildSliceL rfl rfl rfl Tryz.underlying138 sz5 zr5 rfl rfl rfl ?_
      intro p24
      refine x_append (e := 5) [(p24, _)] (l2 := []) r (len := bs.length) (xs := byC bs) rfl rfl rfl rfl (by simp only [List.append_nil]; rfl) hr Tryz.underlying138 ap5 rfl rfl (m := 1) (news := byC [byteAt t k]) (fun i hi => at_ownL (vs := byC [byteAt t k]) (.head _) (by rw [Nat.zero_add]; exact List.getElem?_eq_getElem hi)) rfl (by simp only [maxLen]; omega) (by omega) ?_
      intro r2 hr2
      rw [List.append_nil]
      refine x_val rfl rfl rfl (v_assign rfl) ?_
      refine x_end ?_
      refine b_norm ?_
      refine t_norm ?_
      refine rg_text ?_
      refine x_val rfl rfl rfl (v_move rfl) ?_
      refine x_val rfl rfl rfl (v_addi rfl rfl rfl (by first | omega | (dsimp only; omega))) ?_
      refine x_val rfl rfl rfl (v_assign rfl) ?_
      refine x_end ?_
      exact l_norm (k + 1, bs ++ [byteAt t k], r2) ⟨by dsimp only; omega, by dsimp only; rw [← hB]; simp only [List.append_assoc, List.cons_append, List.nil_append], by dsimp only; rw [byC_app, List.length_append]; exact hr2⟩ (by simp only; omega) (by dsimp only; rw [List.length_append]; repeat (first | exact Sub.nil | refine Sub.cons rfl ?_)) (fun w1 h => h.less (List.sublist_cons_self _ _) (fun _ h => h))
  · simp only [hb9, decide_eq_false_iff_not] at hc9
    have hdr : (bl t).drop k = [] := List.drop_eq_nil_of_le (by rw [bl_len]; omega)
    rw [hdr] at hB
    have hbs : bs = escL (bl t) := by rw [← hB]; exact (List.append_nil _).symm
    refine w_exit ?_
    refine t_exit ?_
    refine t_exit ?_
    refine b_hit ?_
    refine t_norm ?_
    refine w_seq ?_
    refine rg_text ?_
    refine x_val rfl rfl rfl (v_move rfl) ?_
    refine x_val rfl rfl rfl (v_toStrR (E := 5) bs Tryz.underlying138 Tryz.underlying5 Tryz.underlying9 rfl hr rfl (fun q hq => hq)) ?_
    refine x_val rfl rfl rfl (v_assign rfl) ?_
    refine x_end ?_
    refine t_norm ?_
    refine w_ret ?_
    refine ret1 rfl rfl (fun w' hm => ⟨?_, hm.base (by simp)⟩)
    rw [hbs]

end Go.Proofs.YtdampedpgbnihaaGreatDoor

namespace Go.Proofs.YtdampedpgbnihaaGreatDoor
open Go.RowKit Go.PK
set_option linter.unusedVariables false
set_option linter.unusedSimpArgs false
set_option maxRecDepth 100000 in
theorem c_rWrite {v : Value} {l : List Seg} {D : Nat → Prop} (w : World) (hl : sliceRd tySeg D w v l) (hT : (wrT l).length ≤ 2000000000000) :
    Calls Tryz.prog 28 #[v] w fun e w' => e = .returned (.tuple #[.string (wrR l).1, .int .i64 (wrR l).2]) ∧ Later w w' := by
  obtain ⟨A, cp, rfl, hlc, hmx, _⟩ := id hl
  refine enter (vs := [.slice A l.length cp]) Tryz.func28 rfl Tryz.ntmps28 rfl ?_
  refine w_seq ?_
  refine rg_text ?_
  refine x_val rfl rfl rfl (v_assign rfl) ?_
  refine x_val rfl rfl rfl (v_assign rfl) ?_
  refine x_end ?_
  refine t_norm ?_
  refine w_seq ?_
  refine w_seq ?_
  refine rg_text ?_
  refine x_val rfl rfl rfl (v_move rfl) ?_
  refine x_val rfl rfl rfl (v_len_slice Tryz.underlying64 rfl) ?_
  refine x_bool rfl rfl rfl (v_gtr rfl rfl) ?_
  intro b15 hb15
  refine x_end ?_
  refine t_norm ?_
  refine w_cond rfl (fun hc15 => ?_) (fun hc15 => ?_)
  · simp only [hb15, decide_eq_true_eq, decide_eq_false_iff_not, Bool.and_eq_true, Bool.or_eq_true, Bool.and_eq_false_iff, Bool.or_eq_false_iff, Bool.not_eq_true', Bool.not_eq_false', ne_eq, Decidable.not_not] at hc15
    have hmany : l.length > 10000 := by omega
    refine w_seq ?_
    refine rg_text ?_
    refine x_val rfl rfl rfl (v_assign rfl) ?_
    refine x_val rfl rfl rfl (v_assign rfl) ?_
    refine x_end ?_
    refine t_norm ?_
    refine w_ret ?_
    refine t_ret ?_
    refine ret2 rfl rfl rfl (fun w' hm' => ⟨?_, hm'.base (by simp)⟩)
    rw [wrR_many hmany]
  · simp only [hb15, decide_eq_false_iff_not] at hc15
    have hmany : ¬l.length > 10000 := by omega
    refine w_skip ?_
    refine t_norm ?_
    refine w_seq ?_
    refine rg_text ?_
    refine x_val rfl rfl rfl (v_assign rfl) ?_
    refine x_end ?_
    refine t_norm ?_
    refine w_seq ?_
    refine w_seq ?_
    refine rg_text ?_
    refine x_val rfl rfl rfl (v_assign rfl) ?_
    refine x_end ?_
    refine t_norm ?_
    refine w_block ?_
    refine w_loop (σ := Nat × List UInt8) (fun x => x.1 ≤ l.length ∧ x.2 ++ wrT (l.drop x.1) = wrT l ∧ ∀ j (h : j < l.length), j < x.1 → goodW j l[j]) (fun x => [(0, Value.slice A l.length cp), (4, Value.string ⟨(x.2).toArray⟩), (5, Value.int .i64 (x.1 : Nat))]) (fun x => []) (fun x => [(w, fun _ => True)]) (fun x => l.length - x.1) ((0, [])) (⟨Nat.zero_le _, rfl, fun j h hj => by omega⟩) (l_start (by repeat (first | exact Sub.nil | refine Sub.cons rfl ?_)) (fun _ h => h)) ?_
    rintro ⟨k, bs⟩ ⟨hk, hB, hgood⟩
    refine w_state ([(0, Value.slice A l.length cp), (4, Value.string ⟨(bs).toArray⟩), (5, Value.int .i64 (k : Nat))]) ([]) ([(w, fun _ => True)]) ?_
    dsimp only at hk hB hgood
    have hlen := len_le hB hT
    refine w_seq ?_
    refine w_seq ?_
    refine rg_text ?_
    refine x_val rfl rfl rfl (v_move rfl) ?_
    refine x_val rfl rfl rfl (v_move rfl) ?_
    refine x_val rfl rfl rfl (v_len_slice Tryz.underlying64 rfl) ?_
    refine x_bool rfl rfl rfl (v_lss rfl rfl) ?_
    intro b19 hb19
    refine x_end ?_
    refine t_norm ?_
    refine w_cond rfl (fun hc19 => ?_) (fun hc19 => ?_)
    · simp only [hb19, decide_eq_true_eq, decide_eq_false_iff_not, Bool.and_eq_true, Bool.or_eq_true, Bool.and_eq_false_iff, Bool.or_eq_false_iff, Bool.not_eq_true', Bool.not_eq_false', ne_eq, Decidable.not_not] at hc19
      have hkl : k < l.length := by omega
      obtain ⟨b1, o1, u1, hA1, _, ht1, hv1, hk1, hr1⟩ := seg_at hl hkl
      obtain ⟨A7, c7, rfl, hl7, hm7, _⟩ := id hr1
      refine w_skip ?_
      refine t_norm ?_
      refine w_seq ?_
      refine w_block ?_
      refine w_seq ?_
      refine rg_text ?_
      refine x_val rfl rfl rfl (v_move rfl) ?_
      refine x_val rfl rfl rfl (v_move rfl) ?_
      refine x_val rfl rfl rfl (v_indexAddr Tryz.underlying64 sz102 (congrArg (fun A => some (Value.slice A l.length cp)) hA1) rfl (by first | omega | (dsimp only; omega)) rfl) ?_
      refine x_val rfl rfl rfl (v_fieldAddr Tryz.underlying102 rfl sz9 (by decide) rfl rfl) ?_
      refine x_val rfl rfl rfl (v_load Tryz.underlying9 rfl rfl (at_ro (.head _) trivial ht1)) ?_
      refine x_val rfl rfl rfl (v_assign rfl) ?_
      refine x_end ?_
      refine t_norm ?_
      refine w_seq ?_
      refine w_seq ?_
      refine rg_text ?_
      refine x_val rfl rfl rfl (v_move rfl) ?_
      refine x_val rfl rfl rfl (v_len_str Tryz.underlying9 rfl) ?_
      refine x_bool rfl rfl rfl (v_neq rfl rfl) ?_
      intro b29 hb29
      refine x_val rfl rfl rfl (v_move rfl) ?_
      refine x_if [] rfl rfl rfl rfl rfl (fun hg => by obtain ⟨hg0, _⟩ := hg; subst hg0; (try simp only [List.cons_append, List.nil_append, gvl_nil, gvl_t, gvl_f]); exact v_move rfl) ?_
      refine x_ifb [] rfl rfl rfl rfl rfl (fun hg => by obtain ⟨hg0, _⟩ := hg; subst hg0; (try simp only [List.cons_append, List.nil_append, gvl_nil, gvl_t, gvl_f]); exact v_eql rfl rfl) ?_
      intro b32 hb32
      refine x_if [] rfl rfl rfl rfl rfl (fun hg => by obtain ⟨hg0, _⟩ := hg; subst hg0; (try simp only [List.cons_append, List.nil_append, gvl_nil, gvl_t, gvl_f]); exact v_move rfl) ?_
      refine x_if [(b29, false)] rfl rfl rfl rfl rfl (fun hg => by obtain ⟨hg0, hg1, _⟩ := hg; subst hg0; subst hg1; (try simp only [List.cons_append, List.nil_append, gvl_nil, gvl_t, gvl_f]); exact v_move rfl) ?_
      refine x_ifb [(b29, false)] rfl rfl rfl rfl rfl (fun hg => by obtain ⟨hg0, hg1, _⟩ := hg; subst hg0; subst hg1; (try simp only [List.cons_append, List.nil_append, gvl_nil, gvl_t, gvl_f]); exact v_seql rfl rfl) ?_
      intro b35 hb35
      refine x_ifb [] rfl rfl rfl rfl rfl (fun hg => by obtain ⟨hg0, _⟩ := hg; subst hg0; (try simp only [List.cons_append, List.nil_append, gvl_nil, gvl_t, gvl_f]); exact v_and rfl rfl) ?_
      intro b36 hb36
      refine x_bool rfl rfl rfl (v_or rfl rfl) ?_
      intro b37 hb37
      refine x_end ?_
      refine t_norm ?_
      refine w_cond rfl (fun hc37 => ?_) (fun hc37 => ?_)
      · simp only [hb37, hb36, hb35, hb32, hb29, decide_eq_true_eq, decide_eq_false_iff_not, Bool.and_eq_true, Bool.or_eq_true, Bool.and_eq_false_iff, Bool.or_eq_false_iff, Bool.not_eq_true', Bool.not_eq_false', ne_eq, Decidable.not_not] at hc37
        have hbad : ¬goodW k l[k] := fun ⟨h1, h2⟩ => by rcases hc37 with h | h; (· exact h (by have := rightSg_tag h1; omega)); exact h2 ⟨by omega, h.2⟩
        refine w_seq ?_
        refine rg_text ?_
        refine x_val rfl rfl rfl (v_assign rfl) ?_
        refine x_val rfl rfl rfl (v_assign rfl) ?_
        refine x_end ?_
        refine t_norm ?_
        refine w_ret ?_
        refine t_ret ?_
        refine b_ret ?_
        refine t_ret ?_
        refine t_ret ?_
        refine b_ret ?_
        refine t_ret ?_
        refine ret2 rfl rfl rfl (fun w' hm' => ⟨?_, hm'.base (by simp)⟩)
        rw [wrR_bad hmany hkl hbad]
      · simp only [hb37, hb36, hb35, hb32, hb29, decide_eq_true_eq, decide_eq_false_iff_not, Bool.and_eq_true, Bool.or_eq_true, Bool.and_eq_false_iff, Bool.or_eq_false_iff, Bool.not_eq_true', Bool.not_eq_false', ne_eq, Decidable.not_not] at hc37
        have ht3 : l[k].tag.size = 3 := by omega
        have hnu : ¬(k = 0 ∧ l[k].tag = unaT) := fun h => by rcases hc37.2 with h2 | h2; (· exact h2 (by omega)); exact h2 h.2
        refine w_skip ?_
        refine t_norm ?_
        refine w_seq ?_
        refine rg_text ?_
        refine x_val rfl rfl rfl (v_move rfl) ?_
        refine x_val rfl rfl rfl (v_index (j := 0) Tryz.underlying9 rfl rfl (by omega)) ?_
        refine x_callb rfl rfl rfl Tryz.func51 (by kernel_rfl) rfl (fun w1 hw1 => c_rcapital _ w1) ?_
        intro b40 hb40
        refine x_val rfl rfl rfl (v_assign rfl) ?_
        refine x_end ?_
        refine t_norm ?_
        refine w_seq ?_
        refine rg_text ?_
        refine x_val rfl rfl rfl (v_move rfl) ?_
        refine x_val rfl rfl rfl (v_index (j := 1) Tryz.underlying9 rfl rfl (by omega)) ?_
        refine x_callb rfl rfl rfl Tryz.func51 (by kernel_rfl) rfl (fun w1 hw1 => c_rcapital _ w1) ?_
        intro b43 hb43
        refine x_val rfl rfl rfl (v_assign rfl) ?_
        refine x_end ?_
        refine t_norm ?_
        refine w_seq ?_
        refine rg_text ?_
        refine x_val rfl rfl rfl (v_move rfl) ?_
        refine x_val rfl rfl rfl (v_index (j := 2) Tryz.underlying9 rfl rfl (by omega)) ?_
        refine x_callb rfl rfl rfl Tryz.func51 (by kernel_rfl) rfl (fun w1 hw1 => c_rcapital _ w1) ?_
        intro b46 hb46
        refine x_val rfl rfl rfl (v_assign rfl) ?_
        refine x_end ?_
        refine t_norm ?_
        refine w_seq ?_
        refine w_seq ?_
        refine rg_text ?_
        refine x_val rfl rfl rfl (v_move rfl) ?_
        refine x_bool rfl rfl rfl (v_not rfl) ?_
        intro b48 hb48
        refine x_val rfl rfl rfl (v_move rfl) ?_
        refine x_if [] rfl rfl rfl rfl rfl (fun hg => by obtain ⟨hg0, _⟩ := hg; subst hg0; (try simp only [List.cons_append, List.nil_append, gvl_nil, gvl_t, gvl_f]); exact v_move rfl) ?_
        refine x_ifb [] rfl rfl rfl rfl rfl (fun hg => by obtain ⟨hg0, _⟩ := hg; subst hg0; (try simp only [List.cons_append, List.nil_append, gvl_nil, gvl_t, gvl_f]); exact v_not rfl) ?_
        intro b51 hb51
        refine x_bool rfl rfl rfl (v_or rfl rfl) ?_
        intro b52 hb52
        refine x_val rfl rfl rfl (v_move rfl) ?_
        refine x_if [] rfl rfl rfl rfl rfl (fun hg => by obtain ⟨hg0, _⟩ := hg; subst hg0; (try simp only [List.cons_append, List.nil_append, gvl_nil, gvl_t, gvl_f]); exact v_move rfl) ?_
        refine x_ifb [] rfl rfl rfl rfl rfl (fun hg => by obtain ⟨hg0, _⟩ := hg; subst hg0; (try simp only [List.cons_append, List.nil_append, gvl_nil, gvl_t, gvl_f]); exact v_not rfl) ?_
        intro b55 hb55
        refine x_bool rfl rfl rfl (v_or rfl rfl) ?_
        intro b56 hb56
        refine x_end ?_
        refine t_norm ?_
        refine w_cond rfl (fun hc56 => ?_) (fun hc56 => ?_)
        · have hbad : ¬goodW k l[k] := fun ⟨h1, h2⟩ => by
            unfold rightSg at h1
            rw [any_cap ht3] at h1
            rw [hb56, hb55, hb52, hb51, hb48, hb46, hb43, hb40] at hc56
            revert h1 hc56
            cases capB (byteAt l[k].tag 0) <;> cases capB (byteAt l[k].tag 1) <;> cases capB (byteAt l[k].tag 2) <;> simp
          refine w_seq ?_
          refine rg_text ?_
          refine x_val rfl rfl rfl (v_assign rfl) ?_
          refine x_val rfl rfl rfl (v_assign rfl) ?_
          refine x_end ?_
          refine t_norm ?_
          refine w_ret ?_
          refine t_ret ?_
          refine b_ret ?_
          refine t_ret ?_
          refine t_ret ?_
          refine b_ret ?_
          refine t_ret ?_
          refine ret2 rfl rfl rfl (fun w' hm' => ⟨?_, hm'.base (by simp)⟩)
          rw [wrR_bad hmany hkl hbad]
        · have hcap : (bl l[k].tag).any (fun c => !capB c) = false := by
            rw [any_cap ht3]
            rw [hb56, hb55, hb52, hb51, hb48, hb46, hb43, hb40] at hc56
            revert hc56
            cases capB (byteAt l[k].tag 0) <;> cases capB (byteAt l[k].tag 1) <;> cases capB (byteAt l[k].tag 2) <;> simp
          refine w_skip ?_
          refine t_norm ?_
          refine w_seq ?_
          refine rg_text ?_
          refine x_val rfl rfl rfl (v_move rfl) ?_
          refine x_val rfl rfl rfl (v_move rfl) ?_
          refine x_val (v := .string ⟨(bs ++ bl l[k].tag).toArray⟩) rfl rfl rfl (by rw [← str_app]; exact v_sadd rfl rfl (by rw [mk_size]; omega)) ?_
          refine x_val rfl rfl rfl (v_assign rfl) ?_
          refine x_end ?_
          refine t_norm ?_
          refine w_seq ?_
          refine w_seq ?_
          refine rg_text ?_
          refine x_val rfl rfl rfl (v_assign rfl) ?_
          refine x_end ?_
          refine t_norm ?_
          refine w_block ?_
          refine w_loop (σ := Nat × List UInt8) (fun x => x.1 ≤ l[k].els.length ∧ x.2 ++ ((l[k].els.drop x.1).flatMap (elT 43) ++ ([39] ++ wrT (l.drop (k + 1)))) = wrT l ∧ ∀ i (h : i < l[k].els.length), i < x.1 → (l[k].els[i]).isEmpty = false) (fun x => [(0, Value.slice A l.length cp), (4, Value.string ⟨(x.2).toArray⟩), (5, Value.int .i64 (k : Nat)), (10, Value.int .i64 (x.1 : Nat))]) (fun x => []) (fun x => [(w, fun _ => True)]) (fun x => l[k].els.length - x.1) ((0, bs ++ bl l[k].tag)) (⟨Nat.zero_le _, by dsimp only; rw [List.drop_zero, List.append_assoc, ← wrT_drop hkl]; exact hB, fun i h hi => by omega⟩) (l_start (by repeat (first | exact Sub.nil | refine Sub.cons rfl ?_)) (fun _ h => h)) ?_
          rintro ⟨j, bs⟩ ⟨hj, hB, hne⟩
          refine w_state ([(0, Value.slice A l.length cp), (4, Value.string ⟨(bs).toArray⟩), (5, Value.int .i64 (k : Nat)), (10, Value.int .i64 (j : Nat))]) ([]) ([(w, fun _ => True)]) ?_
          dsimp only at hj hB hne
          have hlen := len_le hB hT
          refine w_seq ?_
          refine w_seq ?_
          refine rg_text ?_
          refine x_val rfl rfl rfl (v_move rfl) ?_
          refine x_val rfl rfl rfl (v_move rfl) ?_
          refine x_val rfl rfl rfl (v_move rfl) ?_
          refine x_val rfl rfl rfl (v_indexAddr Tryz.underlying64 sz102 (congrArg (fun A => some (Value.slice A l.length cp)) hA1) rfl (by first | omega | (dsimp only; omega)) rfl) ?_
          refine x_val rfl rfl rfl (v_fieldAddr Tryz.underlying102 rfl sz100 (by decide) rfl rfl) ?_
          refine x_val rfl rfl rfl (v_load Tryz.underlying100 rfl rfl (at_ro (.head _) trivial hv1)) ?_
          refine x_val rfl rfl rfl (v_len_slice Tryz.underlying100 rfl) ?_
          refine x_bool rfl rfl rfl (v_lss rfl rfl) ?_
          intro b67 hb67
          refine x_end ?_
          refine t_norm ?_
          refine w_cond rfl (fun hc67 => ?_) (fun hc67 => ?_)
          · simp only [hb67, decide_eq_true_eq, decide_eq_false_iff_not, Bool.and_eq_true, Bool.or_eq_true, Bool.and_eq_false_iff, Bool.or_eq_false_iff, Bool.not_eq_true', Bool.not_eq_false', ne_eq, Decidable.not_not] at hc67
            have hjl : j < l[k].els.length := by omega
            obtain ⟨b2, o2, u2, hA2, _, hc2, hr2⟩ := sl_at hr1 hjl
            obtain ⟨A8, c8, rfl, hl8, hm8, _⟩ := id hr2
            obtain ⟨ee, hee⟩ : ∃ ee, l[k].els[j] = ee := ⟨_, rfl⟩
            rw [hee] at hr2 hc2 hl8 hm8
            refine w_skip ?_
            refine t_norm ?_
            refine w_seq ?_
            refine w_block ?_
            refine w_seq ?_
            refine rg_text ?_
            refine x_val rfl rfl rfl (v_move rfl) ?_
            refine x_val rfl rfl rfl (v_move rfl) ?_
            refine x_val rfl rfl rfl (v_indexAddr Tryz.underlying64 sz102 (congrArg (fun A => some (Value.slice A l.length cp)) hA1) rfl (by first | omega | (dsimp only; omega)) rfl) ?_
            refine x_val rfl rfl rfl (v_fieldAddr Tryz.underlying102 rfl sz100 (by decide) rfl rfl) ?_
            refine x_val rfl rfl rfl (v_load Tryz.underlying100 rfl rfl (at_ro (.head _) trivial hv1)) ?_
            refine x_val rfl rfl rfl (v_move rfl) ?_
            refine x_val rfl rfl rfl (v_indexAddr Tryz.underlying100 sz104 (congrArg (fun A => some (Value.slice A l[k].els.length c7)) hA2) rfl (by first | omega | (dsimp only; omega)) rfl) ?_
            refine x_val rfl rfl rfl (v_load Tryz.underlying104 rfl rfl (at_ro (.head _) trivial (by rw [Nat.mul_one]; exact hc2))) ?_
            refine x_val rfl rfl rfl (v_assign rfl) ?_
            refine x_end ?_
            refine t_norm ?_
            refine w_seq ?_
            refine w_seq ?_
            refine rg_text ?_
            refine x_val rfl rfl rfl (v_move rfl) ?_
            refine x_val rfl rfl rfl (v_len_slice Tryz.underlying104 rfl) ?_
            refine x_bool rfl rfl rfl (v_eql rfl rfl) ?_
            intro b80 hb80
            refine x_end ?_
            refine t_norm ?_
            refine w_cond rfl (fun hc80 => ?_) (fun hc80 => ?_)
            · simp only [hb80, decide_eq_true_eq, decide_eq_false_iff_not, Bool.and_eq_true, Bool.or_eq_true, Bool.and_eq_false_iff, Bool.or_eq_false_iff, Bool.not_eq_true', Bool.not_eq_false', ne_eq, Decidable.not_not] at hc80
              have hbad : ¬goodW k l[k] := fun ⟨h1, h2⟩ => by
                unfold rightSg at h1
                have h3 : l[k].els.any List.isEmpty = true := List.any_eq_true.2 ⟨_, List.getElem_mem hjl, by rw [hee]; exact List.isEmpty_iff.2 (List.eq_nil_of_length_eq_zero (by omega))⟩
                rw [h3] at h1; simp at h1
              refine w_seq ?_
              refine rg_text ?_
              refine x_val rfl rfl rfl (v_assign rfl) ?_
              refine x_val rfl rfl rfl (v_assign rfl) ?_
              refine x_end ?_
              refine t_norm ?_
              refine w_ret ?_
              refine t_ret ?_
              refine b_ret ?_
              refine t_ret ?_
              refine t_ret ?_
              refine b_ret ?_
              refine t_ret ?_
              refine b_ret ?_
              refine t_ret ?_
              refine t_ret ?_
              refine b_ret ?_
              refine t_ret ?_
              refine ret2 rfl rfl rfl (fun w' hm' => ⟨?_, hm'.base (by simp)⟩)
              rw [wrR_bad hmany hkl hbad]
            · simp only [hb80, decide_eq_true_eq, decide_eq_false_iff_not, Bool.and_eq_true, Bool.or_eq_true, Bool.and_eq_false_iff, Bool.or_eq_false_iff, Bool.not_eq_true', Bool.not_eq_false', ne_eq, Decidable.not_not] at hc80
              have hem : (l[k].els[j]).isEmpty = false := by rw [hee]; cases ee with | nil => exact absurd rfl hc80 | cons => rfl
              refine w_skip ?_
              refine t_norm ?_
              refine w_seq ?_
              refine rg_text ?_
              refine x_val rfl rfl rfl (v_assign rfl) ?_
              refine x_end ?_
              refine t_norm ?_
              refine w_block ?_
              refine w_loop (σ := Nat × List UInt8) (fun x => x.1 ≤ ee.length ∧ x.2 ++ (elT (sepB x.1) (ee.drop x.1) ++ ((l[k].els.drop (j + 1)).flatMap (elT 43) ++ ([39] ++ wrT (l.drop (k + 1))))) = wrT l) (fun x => [(0, Value.slice A l.length cp), (4, Value.string ⟨(x.2).toArray⟩), (5, Value.int .i64 (k : Nat)), (10, Value.int .i64 (j : Nat)), (11, Value.slice A8 ee.length c8), (12, Value.int .i64 (x.1 : Nat))]) (fun x => []) (fun x => [(w, fun _ => True)]) (fun x => ee.length - x.1) ((0, bs)) (⟨Nat.zero_le _, by dsimp only; rw [List.drop_zero, ← hB, els_drop hjl, hee]; simp only [List.append_assoc]; rfl⟩) (l_start (by repeat (first | exact Sub.nil | refine Sub.cons rfl ?_)) (fun _ h => h)) ?_
              rintro ⟨i, bs⟩ ⟨hi, hB⟩
              refine w_state ([(0, Value.slice A l.length cp), (4, Value.string ⟨(bs).toArray⟩), (5, Value.int .i64 (k : Nat)), (10, Value.int .i64 (j : Nat)), (11, Value.slice A8 ee.length c8), (12, Value.int .i64 (i : Nat))]) ([]) ([(w, fun _ => True)]) ?_
              dsimp only at hi hB
              have hlen := len_le hB hT
              refine w_seq ?_
              refine w_seq ?_
              refine rg_text ?_
              refine x_val rfl rfl rfl (v_move rfl) ?_
              refine x_val rfl rfl rfl (v_move rfl) ?_
              refine x_val rfl rfl rfl (v_len_slice Tryz.underlying104 rfl) ?_
              refine x_bool rfl rfl rfl (v_lss rfl rfl) ?_
              intro b84 hb84
              refine x_end ?_
              refine t_norm ?_
              refine w_cond rfl (fun hc84 => ?_) (fun hc84 => ?_)
              · simp only [hb84, decide_eq_true_eq, decide_eq_false_iff_not, Bool.and_eq_true, Bool.or_eq_true, Bool.and_eq_false_iff, Bool.or_eq_false_iff, Bool.not_eq_true', Bool.not_eq_false', ne_eq, Decidable.not_not] at hc84
                have hil : i < ee.length := by omega
                obtain ⟨b3, o3, hA3, _, hc3, hok3⟩ := s_at hr2 hil
                unfold okS at hok3
                rw [elT_drop hil] at hB
                have hesc : (escL (bl ee[i])).length ≤ 2000000000000 := by have := congrArg List.length hB; simp at this; omega
                have hts : ee[i].size ≤ 2000000000000 := by have := esc_len (bl ee[i]); rw [bl_len] at this; omega
                refine w_skip ?_
                refine t_norm ?_
                refine w_seq ?_
                refine w_block ?_
                refine w_seq ?_
                refine w_seq ?_
                refine rg_text ?_
                refine x_val rfl rfl rfl (v_move rfl) ?_
                refine x_bool rfl rfl rfl (v_eql rfl rfl) ?_
                intro b88 hb88
                refine x_end ?_
                refine t_norm ?_
                refine w_cond rfl (fun hc88 => ?_) (fun hc88 => ?_)
                · simp only [hb88, decide_eq_true_eq, decide_eq_false_iff_not, Bool.and_eq_true, Bool.or_eq_true, Bool.and_eq_false_iff, Bool.or_eq_false_iff, Bool.not_eq_true', Bool.not_eq_false', ne_eq, Decidable.not_not] at hc88
                  obtain rfl : i = 0 := by omega
                  refine rg_text ?_
                  refine x_val rfl rfl rfl (v_move rfl) ?_
                  refine x_val (v := .string ⟨(bs ++ ([43] : List UInt8)).toArray⟩) rfl rfl rfl (by rw [← str_app2 (bs) (([43] : List UInt8))]; exact v_sadd (s := ⟨(bs).toArray⟩) (u := ⟨(([43] : List UInt8)).toArray⟩) rfl rfl (by rw [mk_size, mk_size]; simp only [List.length_append, List.length_cons, List.length_nil]; omega)) ?_
                  refine x_val rfl rfl rfl (v_assign rfl) ?_
                  refine x_end ?_
                  refine t_norm ?_
                  refine rg_text ?_
                  refine x_val rfl rfl rfl (v_move rfl) ?_
                  refine x_val rfl rfl rfl (v_move rfl) ?_
                  refine x_val rfl rfl rfl (v_move rfl) ?_
                  refine x_val rfl rfl rfl (v_indexAddr Tryz.underlying104 sz9 (congrArg (fun A => some (Value.slice A ee.length c8)) hA3) rfl (by first | omega | (dsimp only; omega)) rfl) ?_
                  refine x_val rfl rfl rfl (v_load Tryz.underlying9 rfl rfl (at_ro (.head _) trivial (by rw [Nat.mul_one]; exact hc3))) ?_
                  refine x_callv rfl rfl rfl Tryz.func52 (by kernel_rfl) rfl (fun w1 hw1 => c_esc _ w1 hesc (by omega)) ?_
                  refine x_val (v := .string ⟨((bs ++ ([43] : List UInt8)) ++ escL (bl ee[0])).toArray⟩) rfl rfl rfl (by rw [← str_app2 ((bs ++ ([43] : List UInt8))) (escL (bl ee[0]))]; exact v_sadd (s := ⟨((bs ++ ([43] : List UInt8))).toArray⟩) (u := ⟨(escL (bl ee[0])).toArray⟩) rfl rfl (by rw [mk_size, mk_size]; simp only [List.length_append, List.length_cons, List.length_nil]; omega)) ?_
                  refine x_val rfl rfl rfl (v_assign rfl) ?_
                  refine x_end ?_
                  refine b_norm ?_
                  refine t_norm ?_
                  refine rg_text ?_
                  refine x_val rfl rfl rfl (v_move rfl) ?_
                  refine x_val rfl rfl rfl (v_addi rfl rfl rfl (by first | omega | (dsimp only; omega))) ?_
                  refine x_val rfl rfl rfl (v_assign rfl) ?_
                  refine x_end ?_
                  exact l_norm (1, (bs ++ ([43] : List UInt8)) ++ escL (bl ee[0])) (⟨by dsimp only; omega, by dsimp only; rw [← hB]; simp only [List.append_assoc, List.cons_append, List.nil_append]; rfl⟩) (by simp only; omega) (by repeat (first | exact Sub.nil | refine Sub.cons rfl ?_)) (fun _ h => h)
                · simp only [hb88, decide_eq_true_eq, decide_eq_false_iff_not, Bool.and_eq_true, Bool.or_eq_true, Bool.and_eq_false_iff, Bool.or_eq_false_iff, Bool.not_eq_true', Bool.not_eq_false', ne_eq, Decidable.not_not] at hc88
                  have hsp : sepB i = 58 := if_neg (by omega)
                  refine rg_text ?_
                  refine x_val rfl rfl rfl (v_move rfl) ?_
                  refine x_val (v := .string ⟨(bs ++ ([58] : List UInt8)).toArray⟩) rfl rfl rfl (by rw [← str_app2 (bs) (([58] : List UInt8))]; exact v_sadd (s := ⟨(bs).toArray⟩) (u := ⟨(([58] : List UInt8)).toArray⟩) rfl rfl (by rw [mk_size, mk_size]; simp only [List.length_append, List.length_cons, List.length_nil]; omega)) ?_
                  refine x_val rfl rfl rfl (v_assign rfl) ?_
                  refine x_end ?_
                  refine t_norm ?_
                  refine rg_text ?_
                  refine x_val rfl rfl rfl (v_move rfl) ?_
                  refine x_val rfl rfl rfl (v_move rfl) ?_
                  refine x_val rfl rfl rfl (v_move rfl) ?_
                  refine x_val rfl rfl rfl (v_indexAddr Tryz.underlying104 sz9 (congrArg (fun A => some (Value.slice A ee.length c8)) hA3) rfl (by first | omega | (dsimp only; omega)) rfl) ?_
                  refine x_val rfl rfl rfl (v_load Tryz.underlying9 rfl rfl (at_ro (.head _) trivial (by rw [Nat.mul_one]; exact hc3))) ?_
                  refine x_callv rfl rfl rfl Tryz.func52 (by kernel_rfl) rfl (fun w1 hw1 => c_esc _ w1 hesc (by omega)) ?_
                  refine x_val (v := .string ⟨((bs ++ ([58] : List UInt8)) ++ escL (bl ee[i])).toArray⟩) rfl rfl rfl (by rw [← str_app2 ((bs ++ ([58] : List UInt8))) (escL (bl ee[i]))]; exact v_sadd (s := ⟨((bs ++ ([58] : List UInt8))).toArray⟩) (u := ⟨(escL (bl ee[i])).toArray⟩) rfl rfl (by rw [mk_size, mk_size]; simp only [List.length_append, List.length_cons, List.length_nil]; omega)) ?_
                  refine x_val rfl rfl rfl (v_assign rfl) ?_
                  refine x_end ?_
                  refine b_norm ?_
                  refine t_norm ?_
                  refine rg_text ?_
                  refine x_val rfl rfl rfl (v_move rfl) ?_
                  refine x_val rfl rfl rfl (v_addi rfl rfl rfl (by first | omega | (dsimp only; omega))) ?_
                  refine x_val rfl rfl rfl (v_assign rfl) ?_
                  refine x_end ?_
                  exact l_norm (i + 1, (bs ++ ([58] : List UInt8)) ++ escL (bl ee[i])) (⟨by dsimp only; omega, by dsimp only; rw [← hB, hsp]; simp only [List.append_assoc, List.cons_append, List.nil_append]; rfl⟩) (by simp only; omega) (by repeat (first | exact Sub.nil | refine Sub.cons rfl ?_)) (fun _ h => h)
              · simp only [hb84, decide_eq_false_iff_not] at hc84
                rw [drop_all (k := i) (by omega)] at hB
                refine w_exit ?_
                refine t_exit ?_
                refine t_exit ?_
                refine b_hit ?_
                refine b_norm ?_
                refine t_norm ?_
                refine rg_text ?_
                refine x_val rfl rfl rfl (v_move rfl) ?_
                refine x_val rfl rfl rfl (v_addi rfl rfl rfl (by first | omega | (dsimp only; omega))) ?_
                refine x_val rfl rfl rfl (v_assign rfl) ?_
                refine x_end ?_
                exact l_norm (j + 1, bs) (⟨by dsimp only; omega, hB, fun i h hi => by rcases Nat.lt_succ_iff_lt_or_eq.1 hi with h2 | rfl; (· exact hne i h h2); exact hem⟩) (by simp only; omega) (by repeat (first | exact Sub.nil | refine Sub.cons rfl ?_)) (fun _ h => h)
          · simp only [hb67, decide_eq_false_iff_not] at hc67
            rw [drop_all (k := j) (by omega)] at hB
            have hgk : goodW k l[k] := ⟨by unfold rightSg; rw [hcap, decide_eq_true ht3, show l[k].els.any List.isEmpty = false from List.any_eq_false.2 fun e he => by obtain ⟨i, hi, rfl⟩ := List.mem_iff_getElem.1 he; rw [hne i hi (by omega)]; exact Bool.false_ne_true]; rfl, hnu⟩
            refine w_exit ?_
            refine t_exit ?_
            refine t_exit ?_
            refine b_hit ?_
            refine t_norm ?_
            refine rg_text ?_
            refine x_val rfl rfl rfl (v_move rfl) ?_
            refine x_val (v := .string ⟨(bs ++ ([39] : List UInt8)).toArray⟩) rfl rfl rfl (by rw [← str_app2 (bs) (([39] : List UInt8))]; exact v_sadd (s := ⟨(bs).toArray⟩) (u := ⟨(([39] : List UInt8)).toArray⟩) rfl rfl (by rw [mk_size, mk_size]; simp only [List.length_append, List.length_cons, List.length_nil]; omega)) ?_
            refine x_val rfl rfl rfl (v_assign rfl) ?_
            refine x_end ?_
            refine b_norm ?_
            refine t_norm ?_
            refine rg_text ?_
            refine x_val rfl rfl rfl (v_move rfl) ?_
            refine x_val rfl rfl rfl (v_addi rfl rfl rfl (by first | omega | (dsimp only; omega))) ?_
            refine x_val rfl rfl rfl (v_assign rfl) ?_
            refine x_end ?_
            exact l_norm (k + 1, bs ++ ([39] : List UInt8)) (⟨by dsimp only; omega, by dsimp only; rw [← hB]; simp only [List.flatMap_nil, List.append_assoc, List.nil_append], fun j h hj => by rcases Nat.lt_succ_iff_lt_or_eq.1 hj with h2 | rfl; (· exact hgood j h h2); exact hgk⟩) (by simp only; omega) (by repeat (first | exact Sub.nil | refine Sub.cons rfl ?_)) (fun _ h => h)
    · simp only [hb19, decide_eq_false_iff_not] at hc19
      rw [drop_all (k := k) (by omega)] at hB
      have hbs : bs = wrT l := by rw [← hB]; exact (List.append_nil _).symm
      subst hbs
      refine w_exit ?_
      refine t_exit ?_
      refine t_exit ?_
      refine b_hit ?_
      refine t_norm ?_
      refine w_seq ?_
      refine rg_text ?_
      refine x_val rfl rfl rfl (v_move rfl) ?_
      refine x_val rfl rfl rfl (v_assign rfl) ?_
      refine x_val rfl rfl rfl (v_assign rfl) ?_
      refine x_end ?_
      refine t_norm ?_
      refine w_ret ?_
      refine ret2 rfl rfl rfl (fun w' hm' => ⟨?_, hm'.base (by simp)⟩)
      rw [wrR_ok hmany (fun j h => hgood j h (by omega))]

end Go.Proofs.YtdampedpgbnihaaGreatDoor

namespace Go.Proofs.YtdampedpgbnihaaGreatDoor
open Go.RowKit Go.PK
set_option linter.unusedVariables false
set_option linter.unusedSimpArgs false

structure LD (w : World) : Prop where
  tab : Lib.TabIs Tryz.prog w "internal/strconv.uint64pow10" .u64 Lib.pow10Tab
  cel : ∃ m, w.cell? ⟨2, 0, none⟩ = some (.int .i64 m)
  syn : ∃ tp p, w.var? Tryz.prog "strconv.ErrSyntax" = some #[.iface tp p]
  rng : ∃ tp p, w.var? Tryz.prog "strconv.ErrRange" = some #[.iface tp p]
theorem LD.later {w w' : World} (h : LD w) (hl : Later w w') : LD w' := by
  obtain ⟨h1, ⟨m, h2⟩, ⟨t1, p1, h3⟩, ⟨t2, p2, h4⟩⟩ := h
  exact ⟨Joins.tab_stays (g := Tryz.prog.globalNamed "internal/strconv.uint64pow10" |>.getD 0) (by kernel_rfl) h1 hl (Nat.le_refl _), ⟨m, by rw [cell_keep (hl.block 2 (cell_lt (p := ⟨2, 0, none⟩) h2))]; exact h2⟩, ⟨t1, p1, Joins.var_stays (g := Tryz.prog.globalNamed "strconv.ErrSyntax" |>.getD 0) (by kernel_rfl) h3 hl (Nat.le_refl _)⟩, ⟨t2, p2, Joins.var_stays (g := Tryz.prog.globalNamed "strconv.ErrRange" |>.getD 0) (by kernel_rfl) h4 hl (Nat.le_refl _)⟩⟩
theorem c_Itoa (n : Int) (w : World) (hn : in64 n) (hL : LD w) :
    Calls Tryz.prog 82 #[.int .i64 n] w fun e w' => e = .returned (.string (itoaS n)) ∧ Later w w' :=
  (Tryz.strconv_Itoa n hn.1 hn.2 w hL.tab).mono fun e w' ⟨h1, k, os, h2⟩ => ⟨h1, by rw [h2]; exact later_grow w k os⟩
theorem c_Split (s : ByteArray) (w : World) (hs : s.size ≤ 2000000000) (hL : LD w) :
    Calls Tryz.prog 92 #[.string s, .string colon] w fun e w' => ∃ v, e = .returned v ∧ Later w w' ∧ sliceRd tyStr (fun b => w.heap.size ≤ b) w' v (splitC s) := by
  obtain ⟨m, hm⟩ := hL.cel
  refine (Tryz.strings_Split s colon m w (by omega) hm (by decide)).mono fun e w' ⟨h1, h2⟩ => ⟨_, h1, ?_, ?_⟩
  · rw [h2]; exact later_alloc w _
  · have h2 : w' = w.alloc (.cells ((splitC s).map Value.string).toArray 9) := h2
    subst h2
    have hl := splitC_len s
    rw [← hl]
    have hg : (w.alloc (.cells ((splitC s).map Value.string).toArray 9)).heap[w.heap.size]? = some (.cells ((splitC s).map Value.string).toArray 9 (0, 0)) := alloc_at w _
    have hcn : (splitC s).length ≤ 9223372036854775807 := by rw [hl]; have := Lib.countB_le colon (by decide) s.size s (Nat.le_refl _); omega
    refine ⟨_, _, rfl, Nat.le_refl _, hcn, fun h => ⟨w.heap.size, 0, rfl, Nat.le_refl _, heap_lt hg, fun j hj => ⟨_, fun i hi => ?_, rfl, splitC_ok (by unfold okS; omega) _ (List.getElem_mem hj)⟩⟩⟩
    have hi : i = 0 := by simpa using hi
    subst hi
    rw [Nat.zero_add, Nat.add_zero, show tyStr.size = 1 from rfl, Nat.mul_one, cell_of_row _ w.heap.size _ _ 9 (0, 0) hg, List.getElem?_toArray]
    simp [hj]

end Go.Proofs.YtdampedpgbnihaaGreatDoor

namespace Go.Proofs.YtdampedpgbnihaaGreatDoor
open Go.RowKit Go.PK
set_option linter.unusedVariables false
set_option linter.unusedSimpArgs false
set_option maxRecDepth 100000 in
theorem c_number (n : Int) (w : World) (hn : in64 n) (hL : LD w) :
    Calls Tryz.prog 60 #[.int .i64 n] w fun e w' => e = .returned (.string (itoaS n)) ∧ Later w w' := by
  refine enter (vs := [.int .i64 n]) Tryz.func60 rfl Tryz.ntmps60 rfl ?_
  refine w_seq ?_
  refine rg_text ?_
  refine x_val rfl rfl rfl (v_assign rfl) ?_
  refine x_end ?_
  refine t_norm ?_
  refine w_seq ?_
  refine rg_text ?_
  refine x_val rfl rfl rfl (v_move rfl) ?_
  refine x_callv rfl rfl rfl Tryz.func82 (by kernel_rfl) rfl (fun w1 hw1 => c_Itoa n w1 hn (hL.later (hw1.base (by simp)))) ?_
  refine x_val rfl rfl rfl (v_assign rfl) ?_
  refine x_end ?_
  refine t_norm ?_
  refine w_ret ?_
  refine ret1 rfl rfl (fun w' hm => ⟨?_, hm.base (by simp)⟩)
  rfl
set_option maxRecDepth 100000 in
theorem c_article (s n : Int) (w : World) (hs : in64 s) (hn : in64 n) (hL : LD w) :
    Calls Tryz.prog 75 #[.agg #[.int .i64 s, .int .i64 n]] w fun e w' => e = .returned (.string (artS s n)) ∧ Later w w' := by
  have z1 := itoaS_size hs
  have z2 := itoaS_size hn
  refine enter (vs := [.agg #[.int .i64 s, .int .i64 n]]) Tryz.func75 rfl Tryz.ntmps75 rfl ?_
  refine w_seq ?_
  refine rg_text ?_
  refine x_box rfl rfl rfl rfl ?_
  intro p1
  refine x_val rfl rfl rfl (v_assign rfl) ?_
  refine x_end ?_
  refine t_norm ?_
  refine w_seq ?_
  refine rg_draw 10 [(true, 0), (true, 1), (true, 2), (true, 3), (true, 4), (true, 5), (true, 6), (true, 7), (true, 8), (true, 9)] (by kernel_rfl) (by kernel_rfl) ?_
  refine x_val rfl rfl rfl (v_fieldAddr (off' := 0) Tryz.underlying33 rfl sz3 (by decide) rfl rfl) ?_
  refine x_val rfl rfl rfl (v_load Tryz.underlying3 rfl rfl (at_ownL (vs := [Value.int .i64 s, .int .i64 n]) (.head _) rfl)) ?_
  refine x_callv rfl rfl rfl Tryz.func60 (by kernel_rfl) rfl (fun w1 hw1 => c_number s w1 hs (hL.later (hw1.base (by simp)))) ?_
  refine x_val rfl rfl rfl (v_sadd rfl rfl (by show (itoaS s).size + 1 ≤ _; omega)) ?_
  refine x_val rfl rfl rfl (v_fieldAddr (off' := 1) Tryz.underlying33 rfl sz3 (by decide) rfl rfl) ?_
  refine x_val rfl rfl rfl (v_load Tryz.underlying3 rfl rfl (at_ownL (vs := [Value.int .i64 s, .int .i64 n]) (.head _) rfl)) ?_
  refine x_callv rfl rfl rfl Tryz.func60 (by kernel_rfl) rfl (fun w1 hw1 => c_number n w1 hn (hL.later (hw1.base (by simp)))) ?_
  refine x_val rfl rfl rfl (v_sadd rfl rfl (by rw [ByteArray.size_append]; show (itoaS s).size + 1 + (itoaS n).size ≤ _; omega)) ?_
  refine x_val rfl rfl rfl (v_sadd rfl rfl (by rw [ByteArray.size_append, ByteArray.size_append]; show (itoaS s).size + 1 + (itoaS n).size + 4 ≤ _; omega)) ?_
  refine x_val rfl rfl rfl (v_assign rfl) ?_
  refine x_end ?_
  refine t_norm ?_
  refine w_ret ?_
  refine ret1 rfl rfl (fun w' hm => ⟨?_, hm.base (by simp)⟩)
  rfl
set_option maxRecDepth 100000 in
theorem c_wi1 (n a b : Int) (p q : Nat) (w : World) (hp : w.cell? ⟨p, 0, none⟩ = some (.int .i64 a)) (hq : w.cell? ⟨q, 0, none⟩ = some (.int .i64 b)) :
    Calls Tryz.prog 94 #[.int .i64 n, .pointer (some ⟨p, 0, none⟩), .pointer (some ⟨q, 0, none⟩)] w fun e w' => e = .returned (.bool (decide (n < a) || decide (n > b))) ∧ Later w w' := by
  refine enter (vs := [.int .i64 n, .pointer (some ⟨p, 0, none⟩), .pointer (some ⟨q, 0, none⟩)]) Tryz.func94 rfl Tryz.ntmps94 rfl ?_
  refine w_seq ?_
  refine rg_text ?_
  refine x_val rfl rfl rfl (v_assign rfl) ?_
  refine x_end ?_
  refine t_norm ?_
  refine w_seq ?_
  refine rg_text ?_
  refine x_val rfl rfl rfl (v_move rfl) ?_
  refine x_val rfl rfl rfl (v_load Tryz.underlying3 rfl rfl (at_ro (.head _) trivial hp)) ?_
  refine x_bool rfl rfl rfl (v_lss rfl rfl) ?_
  intro b7 hb7
  refine x_val rfl rfl rfl (v_move rfl) ?_
  refine x_if [] rfl rfl rfl rfl rfl (fun hg => by obtain ⟨hg0, _⟩ := hg; subst hg0; (try simp only [List.cons_append, List.nil_append, gvl_nil, gvl_t, gvl_f]); exact v_move rfl) ?_
  refine x_if [] rfl rfl rfl rfl rfl (fun hg => by obtain ⟨hg0, _⟩ := hg; subst hg0; (try simp only [List.cons_append, List.nil_append, gvl_nil, gvl_t, gvl_f]); exact v_load Tryz.underlying3 rfl rfl (at_ro (.head _) trivial hq)) ?_
  refine x_ifb [] rfl rfl rfl rfl rfl (fun hg => by obtain ⟨hg0, _⟩ := hg; subst hg0; (try simp only [List.cons_append, List.nil_append, gvl_nil, gvl_t, gvl_f]); exact v_gtr rfl rfl) ?_
  intro b11 hb11
  refine x_bool rfl rfl rfl (v_or rfl rfl) ?_
  intro b12 hb12
  refine x_val rfl rfl rfl (v_assign rfl) ?_
  refine x_end ?_
  refine t_norm ?_
  refine w_ret ?_
  refine ret1 rfl rfl (fun w' hm => ⟨?_, hm.base (by simp)⟩)
  rw [hb12, hb11, hb7]
theorem calls_cl2 {P : Program} {f : FuncId} {v p q : Value} {w : World} {Q : Ending → World → Prop} (h : Calls P f #[v, p, q] w Q) : Calls P f (#[v] ++ #[p, q]) w Q := by simpa using h
set_option maxRecDepth 100000 in
theorem c_IFI {v : Value} {xs : List Int} {D : Nat → Prop} (a b : Int) (p q : Nat) (w : World) (hxs : sliceRd tyI D w v xs) (hp : w.cell? ⟨p, 0, none⟩ = some (.int .i64 a)) (hq : w.cell? ⟨q, 0, none⟩ = some (.int .i64 b)) :
    Calls Tryz.prog 108 #[v, .func (.func 94) #[] #[.pointer (some ⟨p, 0, none⟩), .pointer (some ⟨q, 0, none⟩)]] w fun e w' => e = .returned (.int .i64 (fidx (fun n => decide (n < a) || decide (n > b)) xs)) ∧ Later w w' := by
  obtain ⟨A, cp, rfl, hlc, hmx, hA⟩ := id hxs
  refine enter (vs := [.slice A xs.length cp, .func (.func 94) #[] #[.pointer (some ⟨p, 0, none⟩), .pointer (some ⟨q, 0, none⟩)]]) Tryz.func108 rfl Tryz.ntmps108 rfl ?_
  refine w_seq ?_
  refine rg_text ?_
  refine x_val rfl rfl rfl (v_assign rfl) ?_
  refine x_end ?_
  refine t_norm ?_
  refine w_seq ?_
  refine w_seq ?_
  refine rg_text ?_
  refine x_val rfl rfl rfl (v_move rfl) ?_
  refine x_val rfl rfl rfl (v_len_slice Tryz.underlying147 rfl) ?_
  refine x_val rfl rfl rfl (v_move rfl) ?_
  refine x_end ?_
  refine t_norm ?_
  refine w_block ?_
  refine w_loop (σ := Nat) (fun k => k ≤ xs.length ∧ ∀ j (h : j < xs.length), j < k → (fun n => decide (n < a) || decide (n > b)) xs[j] = false) (fun k => [(0, .slice A xs.length cp), (1, .func (.func 94) #[] #[.pointer (some ⟨p, 0, none⟩), .pointer (some ⟨q, 0, none⟩)]), (7, Value.int .i64 xs.length), (8, Value.int .i64 (k : Nat))]) (fun k => []) (fun k => [(w, fun _ => True)]) (fun k => xs.length - k) (0) (⟨Nat.zero_le _, by intros; omega⟩) (l_start (by repeat (first | exact Sub.nil | refine Sub.cons rfl ?_)) (fun _ h => h)) ?_
  rintro k ⟨hk, hno⟩
  refine w_state ([(0, .slice A xs.length cp), (1, .func (.func 94) #[] #[.pointer (some ⟨p, 0, none⟩), .pointer (some ⟨q, 0, none⟩)]), (7, Value.int .i64 xs.length), (8, Value.int .i64 (k : Nat))]) ([]) ([(w, fun _ => True)]) ?_
  refine w_seq ?_
  refine rg_text ?_
  refine x_bool rfl rfl rfl (v_lss rfl rfl) ?_
  intro b9 hb9
  refine x_end ?_
  refine t_norm ?_
  refine w_seq ?_
  refine w_cond rfl (fun hc9 => ?_) (fun hc9 => ?_)
  · simp only [hb9, decide_eq_true_eq, decide_eq_false_iff_not, Bool.and_eq_true, Bool.or_eq_true, Bool.and_eq_false_iff, Bool.or_eq_false_iff, Bool.not_eq_true', Bool.not_eq_false', ne_eq, Decidable.not_not] at hc9
    have hkl : k < xs.length := by omega
    obtain ⟨b0, o0, hA0, hD0, hc0, _⟩ := int_at hxs hkl
    refine w_skip ?_
    refine t_norm ?_
    refine w_seq ?_
    refine w_block ?_
    refine w_seq ?_
    refine rg_text ?_
    refine x_val rfl rfl rfl (v_move rfl) ?_
    refine x_val rfl rfl rfl (v_assign rfl) ?_
    refine x_end ?_
    refine t_norm ?_
    refine w_seq ?_
    refine rg_text ?_
    refine x_val rfl rfl rfl (v_move rfl) ?_
    refine x_val rfl rfl rfl (v_move rfl) ?_
    refine x_val rfl rfl rfl (v_move rfl) ?_
    refine x_val rfl rfl rfl (v_indexAddr Tryz.underlying147 sz3 (congrArg (fun A => some (Value.slice A xs.length cp)) hA0) rfl (by first | omega | (dsimp only; omega)) rfl) ?_
    refine x_val rfl rfl rfl (v_load Tryz.underlying3 rfl rfl (at_ro (.head _) trivial (by rw [Nat.mul_one]; exact hc0))) ?_
    refine x_clb rfl rfl rfl rfl Tryz.func94 (by kernel_rfl) rfl (fun w1 hw1 => calls_cl2 (c_wi1 xs[k] a b p q w1 (by rw [cell_keep ((hw1.base (by simp)).block _ (cell_lt hp))]; exact hp) (by rw [cell_keep ((hw1.base (by simp)).block _ (cell_lt hq))]; exact hq))) ?_
    intro b16 hb16
    refine x_end ?_
    refine t_norm ?_
    refine w_cond rfl (fun hc16 => ?_) (fun hc16 => ?_)
    · have hb : (fun n => decide (n < a) || decide (n > b)) xs[k] = true := hb16.symm.trans hc16
      refine w_seq ?_
      refine rg_text ?_
      refine x_val rfl rfl rfl (v_move rfl) ?_
      refine x_val rfl rfl rfl (v_assign rfl) ?_
      refine x_end ?_
      refine t_norm ?_
      refine w_ret ?_
      refine b_ret ?_
      refine t_ret ?_
      refine t_ret ?_
      refine b_ret ?_
      refine t_ret ?_
      refine ret1 rfl rfl (fun w' hm => ⟨?_, hm.base (by simp)⟩)
      rw [fidx_at hkl hb hno]
    · have hb : (fun n => decide (n < a) || decide (n > b)) xs[k] = false := hb16.symm.trans hc16
      refine w_skip ?_
      refine b_norm ?_
      refine t_norm ?_
      refine rg_text ?_
      refine x_val rfl rfl rfl (v_addi rfl rfl rfl (by first | omega | (dsimp only; omega))) ?_
      refine x_val rfl rfl rfl (v_move rfl) ?_
      refine x_end ?_
      exact l_norm (k + 1) ⟨by omega, fun j h hjk => by rcases Nat.lt_succ_iff_lt_or_eq.1 hjk with h2 | rfl; (· exact hno j h h2); exact hb⟩ (by omega) (by repeat (first | exact Sub.nil | refine Sub.cons rfl ?_)) (fun _ h => h)
  · simp only [hb9, decide_eq_true_eq, decide_eq_false_iff_not, Bool.and_eq_true, Bool.or_eq_true, Bool.and_eq_false_iff, Bool.or_eq_false_iff, Bool.not_eq_true', Bool.not_eq_false', ne_eq, Decidable.not_not] at hc9
    refine w_exit ?_
    refine t_exit ?_
    refine t_exit ?_
    refine b_hit ?_
    refine t_norm ?_
    refine w_seq ?_
    refine rg_text ?_
    refine x_val rfl rfl rfl (v_assign rfl) ?_
    refine x_end ?_
    refine t_norm ?_
    refine w_ret ?_
    refine ret1 rfl rfl (fun w' hm => ⟨?_, hm.base (by simp)⟩)
    rw [fidx_none (fun j h => hno j h (by omega))]
set_option maxRecDepth 100000 in
theorem c_CFI {v : Value} {xs : List Int} {D : Nat → Prop} (a b : Int) (p q : Nat) (w : World) (hxs : sliceRd tyI D w v xs) (hp : w.cell? ⟨p, 0, none⟩ = some (.int .i64 a)) (hq : w.cell? ⟨q, 0, none⟩ = some (.int .i64 b)) :
    Calls Tryz.prog 93 #[v, .func (.func 94) #[] #[.pointer (some ⟨p, 0, none⟩), .pointer (some ⟨q, 0, none⟩)]] w fun e w' => e = .returned (.bool (xs.any (fun n => decide (n < a) || decide (n > b)))) ∧ Later w w' := by
  refine enter (vs := [v, .func (.func 94) #[] #[.pointer (some ⟨p, 0, none⟩), .pointer (some ⟨q, 0, none⟩)]]) Tryz.func93 rfl Tryz.ntmps93 rfl ?_
  refine w_seq ?_
  refine rg_text ?_
  refine x_val rfl rfl rfl (v_assign rfl) ?_
  refine x_end ?_
  refine t_norm ?_
  refine w_seq ?_
  refine rg_text ?_
  refine x_val rfl rfl rfl (v_move rfl) ?_
  refine x_val rfl rfl rfl (v_move rfl) ?_
  refine x_callv rfl rfl rfl Tryz.func108 (by kernel_rfl) rfl (fun w1 hw1 => c_IFI a b p q w1 (hxs.keep (Kept.later (hw1.base (by simp)))) (by rw [cell_keep ((hw1.base (by simp)).block _ (cell_lt hp))]; exact hp) (by rw [cell_keep ((hw1.base (by simp)).block _ (cell_lt hq))]; exact hq)) ?_
  refine x_bool rfl rfl rfl (v_geq rfl rfl) ?_
  intro b8 hb8
  refine x_val rfl rfl rfl (v_assign rfl) ?_
  refine x_end ?_
  refine t_norm ?_
  refine w_ret ?_
  refine ret1 rfl rfl (fun w' hm => ⟨?_, hm.base (by simp)⟩)
  rw [hb8, Bool.eq_iff_iff.2 (decide_eq_true_iff.trans (fidx_nn _ xs))]
set_option maxRecDepth 100000 in
theorem c_within {v : Value} {xs : List Int} {D : Nat → Prop} (a b : Int) (w : World) (hxs : sliceRd tyI D w v xs) :
    Calls Tryz.prog 81 #[.int .i64 a, .int .i64 b, v] w fun e w' => e = .returned (.bool (wi a b xs)) ∧ Later w w' := by
  refine enter (vs := [.int .i64 a, .int .i64 b, v]) Tryz.func81 rfl Tryz.ntmps81 rfl ?_
  refine w_seq ?_
  refine rg_text ?_
  refine x_box rfl rfl rfl rfl ?_
  intro p3
  refine x_box rfl rfl rfl rfl ?_
  intro p4
  refine x_val rfl rfl rfl (v_assign rfl) ?_
  refine x_end ?_
  refine t_norm ?_
  refine w_seq ?_
  refine rg_text ?_
  refine x_val rfl rfl rfl (v_move rfl) ?_
  refine x_val rfl rfl rfl (v_func rfl) ?_
  refine x_callb rfl rfl rfl Tryz.func93 (by kernel_rfl) rfl (fun w1 hw1 => c_CFI a b p3 p4 w1 (hxs.keep (Kept.later (hw1.base (by simp)))) (by rw [cell_of_row w1 p3 _ _ 3 (0, 0) (hw1.own_at (p3, _) (.tail _ (.head _)))]; rfl) (by rw [cell_of_row w1 p4 _ _ 3 (0, 0) (hw1.own_at (p4, _) (.head _))]; rfl)) ?_
  intro b9 hb9
  refine x_bool rfl rfl rfl (v_not rfl) ?_
  intro b10 hb10
  refine x_val rfl rfl rfl (v_assign rfl) ?_
  refine x_end ?_
  refine t_norm ?_
  refine w_ret ?_
  refine ret1 rfl rfl (fun w' hm => ⟨?_, hm.base (by simp)⟩)
  rw [hb10, hb9]; rfl
set_option maxRecDepth 100000 in
theorem c_wrA (o : Ord) (w : World) (hok : o.ok) (h1 : wi 1 999999999 [o.id, o.fund] = false) :
    Calls Tryz.prog 73 #[.agg o.cells.toArray] w fun e w' => e = .returned (.bool (writB o)) ∧ Later w w' := by
  have hok1 : in64 o.id ∧ in64 o.fund := ⟨hok.1, hok.2.1⟩
  have hok2 : in64 o.src ∧ in64 o.num ∧ in64 o.price := ⟨hok.2.2.1, hok.2.2.2.1, hok.2.2.2.2.2⟩
  have hok3 : in64 o.copies := hok.2.2.2.2.1
  refine enter (vs := [.agg o.cells.toArray]) Tryz.func73 rfl Tryz.ntmps73 rfl ?_
  refine w_seq ?_
  refine rg_text ?_
  refine x_box rfl rfl rfl rfl ?_
  intro p1
  refine x_val rfl rfl rfl (v_assign rfl) ?_
  refine x_end ?_
  refine t_norm ?_
  refine w_seq ?_
  refine rg_text ?_
  refine x_val rfl rfl rfl (v_fieldAddr (off' := 0) Tryz.underlying35 rfl sz3 (by decide) rfl rfl) ?_
  refine x_val rfl rfl rfl (v_load Tryz.underlying3 rfl rfl (at_ownL (vs := o.cells) (by repeat (first | exact List.Mem.head _ | apply List.Mem.tail)) rfl)) ?_
  refine x_val rfl rfl rfl (v_fieldAddr (off' := 1) Tryz.underlying35 rfl sz3 (by decide) rfl rfl) ?_
  refine x_val rfl rfl rfl (v_load Tryz.underlying3 rfl rfl (at_ownL (vs := o.cells) (by repeat (first | exact List.Mem.head _ | apply List.Mem.tail)) rfl)) ?_
  refine x_buildSliceL (cs := [Value.int .i64 o.id, .int .i64 o.fund]) rfl rfl rfl Tryz.underlying147 sz3 zr3 rfl rfl rfl ?_
  intro p7
  refine x_callb rfl rfl rfl Tryz.func81 (by kernel_rfl) rfl (fun w1 hw1 => c_within 1 999999999 w1 (rowI_rd (D := fun _ => True) (e := 3) (r := some (p7, [Value.int .i64 o.id, Value.int .i64 o.fund], 2)) (n := 2) (ds := [o.id, o.fund]) (rowOK_lit rfl (by decide)) rfl (by simpa using hok1) hw1 (fun q hq => by rw [List.mem_singleton.1 hq]; exact .head _) (fun _ _ => trivial))) ?_
  intro b8 hb8
  obtain rfl : b8 = false := hb8.trans h1
  refine x_val rfl rfl rfl (v_move rfl) ?_
  refine x_no rfl rfl rfl rfl rfl ?_
  refine x_no rfl rfl rfl rfl rfl ?_
  refine x_no rfl rfl rfl rfl rfl ?_
  refine x_no rfl rfl rfl rfl rfl ?_
  refine x_no rfl rfl rfl rfl rfl ?_
  refine x_no rfl rfl rfl rfl rfl ?_
  refine x_no rfl rfl rfl rfl rfl ?_
  refine x_no rfl rfl rfl rfl rfl ?_
  refine x_no rfl rfl rfl rfl rfl ?_
  refine x_no rfl rfl rfl rfl rfl ?_
  refine x_val (v := .bool false) rfl rfl rfl (v_pick (b := false) rfl rfl) ?_
  refine x_val rfl rfl rfl (v_move rfl) ?_
  refine x_no rfl rfl rfl rfl rfl ?_
  refine x_no rfl rfl rfl rfl rfl ?_
  refine x_no rfl rfl rfl rfl rfl ?_
  refine x_no rfl rfl rfl rfl rfl ?_
  refine x_val (v := .bool false) rfl rfl rfl (v_pick (b := false) rfl rfl) ?_
  refine x_val rfl rfl rfl (v_assign rfl) ?_
  refine x_end ?_
  refine t_norm ?_
  refine w_ret ?_
  refine ret1 rfl rfl (fun w' hm => ⟨?_, hm.base (by simp)⟩)
  unfold writB; rw [h1]; rfl
set_option maxRecDepth 100000 in
theorem c_wrB (o : Ord) (w : World) (hok : o.ok) (h1 : wi 1 999999999 [o.id, o.fund] = true) (h2 : wi 0 999999999 [o.src, o.num, o.price] = false) :
    Calls Tryz.prog 73 #[.agg o.cells.toArray] w fun e w' => e = .returned (.bool (writB o)) ∧ Later w w' := by
  have hok1 : in64 o.id ∧ in64 o.fund := ⟨hok.1, hok.2.1⟩
  have hok2 : in64 o.src ∧ in64 o.num ∧ in64 o.price := ⟨hok.2.2.1, hok.2.2.2.1, hok.2.2.2.2.2⟩
  have hok3 : in64 o.copies := hok.2.2.2.2.1
  refine enter (vs := [.agg o.cells.toArray]) Tryz.func73 rfl Tryz.ntmps73 rfl ?_
  refine w_seq ?_
  refine rg_text ?_
  refine x_box rfl rfl rfl rfl ?_
  intro p1
  refine x_val rfl rfl rfl (v_assign rfl) ?_
  refine x_end ?_
  refine t_norm ?_
  refine w_seq ?_
  refine rg_text ?_
  refine x_val rfl rfl rfl (v_fieldAddr (off' := 0) Tryz.underlying35 rfl sz3 (by decide) rfl rfl) ?_
  refine x_val rfl rfl rfl (v_load Tryz.underlying3 rfl rfl (at_ownL (vs := o.cells) (by repeat (first | exact List.Mem.head _ | apply List.Mem.tail)) rfl)) ?_
  refine x_val rfl rfl rfl (v_fieldAddr (off' := 1) Tryz.underlying35 rfl sz3 (by decide) rfl rfl) ?_
  refine x_val rfl rfl rfl (v_load Tryz.underlying3 rfl rfl (at_ownL (vs := o.cells) (by repeat (first | exact List.Mem.head _ | apply List.Mem.tail)) rfl)) ?_
  refine x_buildSliceL (cs := [Value.int .i64 o.id, .int .i64 o.fund]) rfl rfl rfl Tryz.underlying147 sz3 zr3 rfl rfl rfl ?_
  intro p7
  refine x_callb rfl rfl rfl Tryz.func81 (by kernel_rfl) rfl (fun w1 hw1 => c_within 1 999999999 w1 (rowI_rd (D := fun _ => True) (e := 3) (r := some (p7, [Value.int .i64 o.id, Value.int .i64 o.fund], 2)) (n := 2) (ds := [o.id, o.fund]) (rowOK_lit rfl (by decide)) rfl (by simpa using hok1) hw1 (fun q hq => by rw [List.mem_singleton.1 hq]; exact .head _) (fun _ _ => trivial))) ?_
  intro b8 hb8
  obtain rfl : b8 = true := hb8.trans h1
  refine x_val rfl rfl rfl (v_move rfl) ?_
  refine x_if [] rfl rfl rfl rfl rfl (fun hg => by obtain ⟨hg0, _⟩ := hg; (try simp only [List.cons_append, List.nil_append, gvl_nil, gvl_t, gvl_f]); exact v_fieldAddr (off' := 2) Tryz.underlying35 rfl sz33 (by decide) rfl rfl) ?_
  refine x_if [] rfl rfl rfl rfl rfl (fun hg => by obtain ⟨hg0, _⟩ := hg; (try simp only [List.cons_append, List.nil_append, gvl_nil, gvl_t, gvl_f]); exact v_fieldAddr (off' := 2) Tryz.underlying33 rfl sz3 (by decide) rfl rfl) ?_
  refine x_if [] rfl rfl rfl rfl rfl (fun hg => by obtain ⟨hg0, _⟩ := hg; (try simp only [List.cons_append, List.nil_append, gvl_nil, gvl_t, gvl_f]); exact v_load Tryz.underlying3 rfl rfl (at_ownL (vs := o.cells) (by repeat (first | exact List.Mem.head _ | apply List.Mem.tail)) rfl)) ?_
  refine x_if [] rfl rfl rfl rfl rfl (fun hg => by obtain ⟨hg0, _⟩ := hg; (try simp only [List.cons_append, List.nil_append, gvl_nil, gvl_t, gvl_f]); exact v_fieldAddr (off' := 2) Tryz.underlying35 rfl sz33 (by decide) rfl rfl) ?_
  refine x_if [] rfl rfl rfl rfl rfl (fun hg => by obtain ⟨hg0, _⟩ := hg; (try simp only [List.cons_append, List.nil_append, gvl_nil, gvl_t, gvl_f]); exact v_fieldAddr (off' := 3) Tryz.underlying33 rfl sz3 (by decide) rfl rfl) ?_
  refine x_if [] rfl rfl rfl rfl rfl (fun hg => by obtain ⟨hg0, _⟩ := hg; (try simp only [List.cons_append, List.nil_append, gvl_nil, gvl_t, gvl_f]); exact v_load Tryz.underlying3 rfl rfl (at_ownL (vs := o.cells) (by repeat (first | exact List.Mem.head _ | apply List.Mem.tail)) rfl)) ?_
  refine x_if [] rfl rfl rfl rfl rfl (fun hg => by obtain ⟨hg0, _⟩ := hg; (try simp only [List.cons_append, List.nil_append, gvl_nil, gvl_t, gvl_f]); exact v_fieldAddr (off' := 5) Tryz.underlying35 rfl sz3 (by decide) rfl rfl) ?_
  refine x_if [] rfl rfl rfl rfl rfl (fun hg => by obtain ⟨hg0, _⟩ := hg; (try simp only [List.cons_append, List.nil_append, gvl_nil, gvl_t, gvl_f]); exact v_load Tryz.underlying3 rfl rfl (at_ownL (vs := o.cells) (by repeat (first | exact List.Mem.head _ | apply List.Mem.tail)) rfl)) ?_
  refine x_buildSlice_g (cs := [Value.int .i64 o.src, .int .i64 o.num, .int .i64 o.price]) rfl rfl rfl rfl rfl Tryz.underlying147 sz3 zr3 rfl rfl rfl ?_
  intro p18
  refine x_call_ifb [] rfl rfl rfl rfl rfl Tryz.func81 (by kernel_rfl) (fun hg => by obtain ⟨hg0, _⟩ := hg; (try simp only [List.cons_append, List.nil_append, gvl_nil, gvl_t, gvl_f]); refine ⟨_, rfl, ?_⟩; exact fun w1 hw1 => c_within 0 999999999 w1 (rowI_rd (D := fun _ => True) (e := 3) (r := some (p18, [Value.int .i64 o.src, Value.int .i64 o.num, Value.int .i64 o.price], 3)) (n := 3) (ds := [o.src, o.num, o.price]) (rowOK_lit rfl (by decide)) rfl (by simpa using hok2) hw1 (fun q hq => by rw [List.mem_singleton.1 hq]; exact .head _) (fun _ _ => trivial))) ?_
  intro b19 hb19
  obtain rfl : b19 = false := hb19.trans h2
  refine x_val (v := .bool false) rfl rfl rfl (v_pick (b := true) rfl rfl) ?_
  refine x_val rfl rfl rfl (v_move rfl) ?_
  refine x_no rfl rfl rfl rfl rfl ?_
  refine x_no rfl rfl rfl rfl rfl ?_
  refine x_no rfl rfl rfl rfl rfl ?_
  refine x_no rfl rfl rfl rfl rfl ?_
  refine x_val (v := .bool false) rfl rfl rfl (v_pick (b := false) rfl rfl) ?_
  refine x_val rfl rfl rfl (v_assign rfl) ?_
  refine x_end ?_
  refine t_norm ?_
  refine w_ret ?_
  refine ret1 rfl rfl (fun w' hm => ⟨?_, hm.base (by simp)⟩)
  unfold writB; rw [h1, h2]; rfl
set_option maxRecDepth 100000 in
theorem c_wrC (o : Ord) (w : World) (hok : o.ok) (h1 : wi 1 999999999 [o.id, o.fund] = true) (h2 : wi 0 999999999 [o.src, o.num, o.price] = true) :
    Calls Tryz.prog 73 #[.agg o.cells.toArray] w fun e w' => e = .returned (.bool (writB o)) ∧ Later w w' := by
  have hok1 : in64 o.id ∧ in64 o.fund := ⟨hok.1, hok.2.1⟩
  have hok2 : in64 o.src ∧ in64 o.num ∧ in64 o.price := ⟨hok.2.2.1, hok.2.2.2.1, hok.2.2.2.2.2⟩
  have hok3 : in64 o.copies := hok.2.2.2.2.1
  refine enter (vs := [.agg o.cells.toArray]) Tryz.func73 rfl Tryz.ntmps73 rfl ?_
  refine w_seq ?_
  refine rg_text ?_
  refine x_box rfl rfl rfl rfl ?_
  intro p1
  refine x_val rfl rfl rfl (v_assign rfl) ?_
  refine x_end ?_
  refine t_norm ?_
  refine w_seq ?_
  refine rg_text ?_
  refine x_val rfl rfl rfl (v_fieldAddr (off' := 0) Tryz.underlying35 rfl sz3 (by decide) rfl rfl) ?_
  refine x_val rfl rfl rfl (v_load Tryz.underlying3 rfl rfl (at_ownL (vs := o.cells) (by repeat (first | exact List.Mem.head _ | apply List.Mem.tail)) rfl)) ?_
  refine x_val rfl rfl rfl (v_fieldAddr (off' := 1) Tryz.underlying35 rfl sz3 (by decide) rfl rfl) ?_
  refine x_val rfl rfl rfl (v_load Tryz.underlying3 rfl rfl (at_ownL (vs := o.cells) (by repeat (first | exact List.Mem.head _ | apply List.Mem.tail)) rfl)) ?_
  refine x_buildSliceL (cs := [Value.int .i64 o.id, .int .i64 o.fund]) rfl rfl rfl Tryz.underlying147 sz3 zr3 rfl rfl rfl ?_
  intro p7
  refine x_callb rfl rfl rfl Tryz.func81 (by kernel_rfl) rfl (fun w1 hw1 => c_within 1 999999999 w1 (rowI_rd (D := fun _ => True) (e := 3) (r := some (p7, [Value.int .i64 o.id, Value.int .i64 o.fund], 2)) (n := 2) (ds := [o.id, o.fund]) (rowOK_lit rfl (by decide)) rfl (by simpa using hok1) hw1 (fun q hq => by rw [List.mem_singleton.1 hq]; exact .head _) (fun _ _ => trivial))) ?_
  intro b8 hb8
  obtain rfl : b8 = true := hb8.trans h1
  refine x_val rfl rfl rfl (v_move rfl) ?_
  refine x_if [] rfl rfl rfl rfl rfl (fun hg => by obtain ⟨hg0, _⟩ := hg; (try simp only [List.cons_append, List.nil_append, gvl_nil, gvl_t, gvl_f]); exact v_fieldAddr (off' := 2) Tryz.underlying35 rfl sz33 (by decide) rfl rfl) ?_
  refine x_if [] rfl rfl rfl rfl rfl (fun hg => by obtain ⟨hg0, _⟩ := hg; (try simp only [List.cons_append, List.nil_append, gvl_nil, gvl_t, gvl_f]); exact v_fieldAddr (off' := 2) Tryz.underlying33 rfl sz3 (by decide) rfl rfl) ?_
  refine x_if [] rfl rfl rfl rfl rfl (fun hg => by obtain ⟨hg0, _⟩ := hg; (try simp only [List.cons_append, List.nil_append, gvl_nil, gvl_t, gvl_f]); exact v_load Tryz.underlying3 rfl rfl (at_ownL (vs := o.cells) (by repeat (first | exact List.Mem.head _ | apply List.Mem.tail)) rfl)) ?_
  refine x_if [] rfl rfl rfl rfl rfl (fun hg => by obtain ⟨hg0, _⟩ := hg; (try simp only [List.cons_append, List.nil_append, gvl_nil, gvl_t, gvl_f]); exact v_fieldAddr (off' := 2) Tryz.underlying35 rfl sz33 (by decide) rfl rfl) ?_
  refine x_if [] rfl rfl rfl rfl rfl (fun hg => by obtain ⟨hg0, _⟩ := hg; (try simp only [List.cons_append, List.nil_append, gvl_nil, gvl_t, gvl_f]); exact v_fieldAddr (off' := 3) Tryz.underlying33 rfl sz3 (by decide) rfl rfl) ?_
  refine x_if [] rfl rfl rfl rfl rfl (fun hg => by obtain ⟨hg0, _⟩ := hg; (try simp only [List.cons_append, List.nil_append, gvl_nil, gvl_t, gvl_f]); exact v_load Tryz.underlying3 rfl rfl (at_ownL (vs := o.cells) (by repeat (first | exact List.Mem.head _ | apply List.Mem.tail)) rfl)) ?_
  refine x_if [] rfl rfl rfl rfl rfl (fun hg => by obtain ⟨hg0, _⟩ := hg; (try simp only [List.cons_append, List.nil_append, gvl_nil, gvl_t, gvl_f]); exact v_fieldAddr (off' := 5) Tryz.underlying35 rfl sz3 (by decide) rfl rfl) ?_
  refine x_if [] rfl rfl rfl rfl rfl (fun hg => by obtain ⟨hg0, _⟩ := hg; (try simp only [List.cons_append, List.nil_append, gvl_nil, gvl_t, gvl_f]); exact v_load Tryz.underlying3 rfl rfl (at_ownL (vs := o.cells) (by repeat (first | exact List.Mem.head _ | apply List.Mem.tail)) rfl)) ?_
  refine x_buildSlice_g (cs := [Value.int .i64 o.src, .int .i64 o.num, .int .i64 o.price]) rfl rfl rfl rfl rfl Tryz.underlying147 sz3 zr3 rfl rfl rfl ?_
  intro p18
  refine x_call_ifb [] rfl rfl rfl rfl rfl Tryz.func81 (by kernel_rfl) (fun hg => by obtain ⟨hg0, _⟩ := hg; (try simp only [List.cons_append, List.nil_append, gvl_nil, gvl_t, gvl_f]); refine ⟨_, rfl, ?_⟩; exact fun w1 hw1 => c_within 0 999999999 w1 (rowI_rd (D := fun _ => True) (e := 3) (r := some (p18, [Value.int .i64 o.src, Value.int .i64 o.num, Value.int .i64 o.price], 3)) (n := 3) (ds := [o.src, o.num, o.price]) (rowOK_lit rfl (by decide)) rfl (by simpa using hok2) hw1 (fun q hq => by rw [List.mem_singleton.1 hq]; exact .head _) (fun _ _ => trivial))) ?_
  intro b19 hb19
  obtain rfl : b19 = true := hb19.trans h2
  refine x_bool rfl rfl rfl (v_and rfl rfl) ?_
  intro b20 hb20
  obtain rfl : b20 = true := hb20
  refine x_val rfl rfl rfl (v_move rfl) ?_
  refine x_if [] rfl rfl rfl rfl rfl (fun hg => by obtain ⟨hg0, _⟩ := hg; (try simp only [List.cons_append, List.nil_append, gvl_nil, gvl_t, gvl_f]); exact v_fieldAddr (off' := 4) Tryz.underlying35 rfl sz3 (by decide) rfl rfl) ?_
  refine x_if [] rfl rfl rfl rfl rfl (fun hg => by obtain ⟨hg0, _⟩ := hg; (try simp only [List.cons_append, List.nil_append, gvl_nil, gvl_t, gvl_f]); exact v_load Tryz.underlying3 rfl rfl (at_ownL (vs := o.cells) (by repeat (first | exact List.Mem.head _ | apply List.Mem.tail)) rfl)) ?_
  refine x_buildSlice_g (cs := [Value.int .i64 o.copies]) rfl rfl rfl rfl rfl Tryz.underlying147 sz3 zr3 rfl rfl rfl ?_
  intro p24
  refine x_call_ifb [] rfl rfl rfl rfl rfl Tryz.func81 (by kernel_rfl) (fun hg => by obtain ⟨hg0, _⟩ := hg; (try simp only [List.cons_append, List.nil_append, gvl_nil, gvl_t, gvl_f]); refine ⟨_, rfl, ?_⟩; exact fun w1 hw1 => c_within 1 9999 w1 (rowI_rd (D := fun _ => True) (e := 3) (r := some (p24, [Value.int .i64 o.copies], 1)) (n := 1) (ds := [o.copies]) (rowOK_lit rfl (by decide)) rfl (by simpa using hok3) hw1 (fun q hq => by rw [List.mem_singleton.1 hq]; exact .head _) (fun _ _ => trivial))) ?_
  intro b25 hb25
  refine x_val (v := .bool b25) rfl rfl rfl (v_pick (b := true) rfl rfl) ?_
  refine x_val rfl rfl rfl (v_assign rfl) ?_
  refine x_end ?_
  refine t_norm ?_
  refine w_ret ?_
  refine ret1 rfl rfl (fun w' hm => ⟨?_, hm.base (by simp)⟩)
  unfold writB; rw [h1, h2, hb25]; rfl
theorem c_writable (o : Ord) (w : World) (hok : o.ok) :
    Calls Tryz.prog 73 #[.agg o.cells.toArray] w fun e w' => e = .returned (.bool (writB o)) ∧ Later w w' := by
  cases h1 : wi 1 999999999 [o.id, o.fund] with
  | false => exact c_wrA o w hok h1
  | true =>
    cases h2 : wi 0 999999999 [o.src, o.num, o.price] with
    | false => exact c_wrB o w hok h1 h2
    | true => exact c_wrC o w hok h1 h2

end Go.Proofs.YtdampedpgbnihaaGreatDoor

namespace Go.Proofs.YtdampedpgbnihaaGreatDoor
open Go.RowKit Go.PK
set_option linter.unusedVariables false
set_option linter.unusedSimpArgs false
set_option maxRecDepth 100000 in
theorem c_segment {v : Value} {es : List ByteArray} {D : Nat → Prop} (tag : ByteArray) (w : World) (hes : sliceRd tyStr D w v es) (hz : ∀ e ∈ es, e.size ≤ 2000000000) (hn : es.length ≤ 1000) (hL : LD w) :
    Calls Tryz.prog 74 #[.string tag, v] w fun e w' => ∃ u, e = .returned (.agg #[.string tag, u]) ∧ Later w w' ∧ sliceRd (tySlice tyStr) (fun b => w.heap.size ≤ b) w' u (es.map splitC) := by
  obtain ⟨A, cp, rfl, hlc, hmx, _⟩ := id hes
  refine enter (vs := [.string tag, Value.slice A es.length cp]) Tryz.func74 rfl Tryz.ntmps74 rfl ?_
  refine w_seq ?_
  refine rg_text ?_
  refine x_alloc rfl rfl rfl zr102 ?_
  intro p4
  refine x_end ?_
  refine t_norm ?_
  refine w_seq ?_
  refine rg_text ?_
  refine x_val rfl rfl rfl (v_move rfl) ?_
  refine x_val rfl rfl rfl (v_buildL (places := [(0, 1), (1, 1)]) Tryz.underlying102 zr102 (by kernel_rfl) rfl rfl) ?_
  refine x_alloc rfl rfl rfl zr102 ?_
  intro p5
  refine x_store0 [] rfl rfl rfl rfl sz102 rfl rfl ?_
  refine x_end ?_
  refine t_norm ?_
  refine w_seq ?_
  refine w_seq ?_
  refine rg_text ?_
  refine x_val rfl rfl rfl (v_move rfl) ?_
  refine x_val rfl rfl rfl (v_len_slice Tryz.underlying104 rfl) ?_
  refine x_val rfl rfl rfl (v_move rfl) ?_
  refine x_end ?_
  refine t_norm ?_
  refine w_block ?_
  refine w_fix ((p5, Obj.cells [Value.string tag, rowV none (0)].toArray 102) :: (rowO 104 none ++ [(p4, Obj.cells [Value.string ⟨#[]⟩, .slice none 0 0].toArray 102)])) (List.Sublist.refl _) (fun w0 hm0 => ?_)
  refine w_loop (σ := Nat × RowS × World) (fun x => x.1 ≤ es.length ∧ RowT (tySlice tyStr) (newD w ((p5, Obj.cells [Value.string tag, rowV x.2.1 (x.1)].toArray 102) :: (rowO 104 x.2.1 ++ [(p4, Obj.cells [Value.string ⟨#[]⟩, .slice none 0 0].toArray 102)]))) x.2.2 x.2.1 ((es.take x.1).map splitC)) (fun x => [(4, Value.pointer (some ⟨p4, 0, none⟩)), (5, Value.pointer (some ⟨p5, 0, none⟩)), (10, Value.slice A es.length cp), (11, Value.int .i64 (es.length : Nat)), (12, Value.int .i64 (x.1 : Nat))]) (fun x => (p5, Obj.cells [Value.string tag, rowV x.2.1 (x.1)].toArray 102) :: (rowO 104 x.2.1 ++ [(p4, Obj.cells [Value.string ⟨#[]⟩, .slice none 0 0].toArray 102)])) (fun x => (x.2.2, notOwn ((p5, Obj.cells [Value.string tag, rowV x.2.1 (x.1)].toArray 102) :: (rowO 104 x.2.1 ++ [(p4, Obj.cells [Value.string ⟨#[]⟩, .slice none 0 0].toArray 102)]))) :: [(w, fun _ => True)]) (fun x => es.length - x.1) ((0, none, w0)) (⟨Nat.zero_le _, RowT.nil⟩) (l_start (by repeat (first | exact Sub.nil | refine Sub.cons rfl ?_)) (fun _ h => h)) ?_
  rintro ⟨k, R, ws⟩ ⟨hk, hT⟩
  refine w_state ([(4, Value.pointer (some ⟨p4, 0, none⟩)), (5, Value.pointer (some ⟨p5, 0, none⟩)), (10, Value.slice A es.length cp), (11, Value.int .i64 (es.length : Nat)), (12, Value.int .i64 (k : Nat))]) ((p5, Obj.cells [Value.string tag, rowV R (k)].toArray 102) :: (rowO 104 R ++ [(p4, Obj.cells [Value.string ⟨#[]⟩, .slice none 0 0].toArray 102)])) ((ws, notOwn ((p5, Obj.cells [Value.string tag, rowV R (k)].toArray 102) :: (rowO 104 R ++ [(p4, Obj.cells [Value.string ⟨#[]⟩, .slice none 0 0].toArray 102)]))) :: [(w, fun _ => True)]) ?_
  dsimp only at hk hT
  have hln : ((es.take k).map splitC).length = k := by simp; omega
  refine w_seq ?_
  refine rg_text ?_
  refine x_bool rfl rfl rfl (v_lss rfl rfl) ?_
  intro b13 hb13
  refine x_end ?_
  refine t_norm ?_
  refine w_seq ?_
  refine w_cond rfl (fun hc13 => ?_) (fun hc13 => ?_)
  · simp only [hb13, decide_eq_true_eq, decide_eq_false_iff_not, Bool.and_eq_true, Bool.or_eq_true, Bool.and_eq_false_iff, Bool.or_eq_false_iff, Bool.not_eq_true', Bool.not_eq_false', ne_eq, Decidable.not_not] at hc13
    have hkl : k < es.length := by omega
    obtain ⟨b0, o0, hA0, _, hc0, _⟩ := s_at hes hkl
    have hze := hz _ (List.getElem_mem hkl)
    refine w_skip ?_
    refine t_norm ?_
    refine w_seq ?_
    refine w_block ?_
    refine w_seq ?_
    refine rg_text ?_
    refine x_val rfl rfl rfl (v_indexAddr Tryz.underlying104 sz9 (congrArg (fun A => some (Value.slice A es.length cp)) hA0) rfl (by first | omega | (dsimp only; omega)) rfl) ?_
    refine x_val rfl rfl rfl (v_load Tryz.underlying9 rfl rfl (at_ro (List.mem_cons_of_mem _ (.head _)) trivial (by rw [Nat.mul_one]; exact hc0))) ?_
    refine x_val rfl rfl rfl (v_assign rfl) ?_
    refine x_end ?_
    refine t_norm ?_
    refine rg_draw 5 [(true, 0), (true, 1), (true, 2), (false, 3), (false, 4)] (by kernel_rfl) (by kernel_rfl) ?_
    refine x_val rfl rfl rfl (v_fieldAddr (off' := 1) Tryz.underlying102 rfl sz100 (by decide) rfl rfl) ?_
    refine x_val rfl rfl rfl (v_load Tryz.underlying100 rfl rfl (at_ownL (vs := [Value.string tag, rowV R k]) (.head _) rfl)) ?_
    refine x_val rfl rfl rfl (v_move rfl) ?_
    refine x_call (R := fun v wa wb => sliceRd tyStr (fun b => wa.heap.size ≤ b) wb v (splitC es[k])) rfl rfl rfl Tryz.func92 (by kernel_rfl) rfl (fun w1 hw1 => c_Split es[k] w1 hze (hL.later (hw1.base (by simp)))) ?_
    intro v19 wa wb hwa hwl hR
    obtain ⟨A9, c9, rfl, hl9, hm9, _⟩ := id hR
    obtain ⟨css, hcl, hrow, hrd⟩ := hT
    rw [hln] at hcl hrow
    refine x_buildSliceL (cs := [Value.slice A9 (splitC es[k]).length c9]) rfl rfl rfl Tryz.underlying100 sz104 zr104 rfl rfl rfl ?_
    intro p20
    refine x_append (e := 104) [(p20, Obj.cells [Value.slice A9 (splitC es[k]).length c9].toArray 104), (p5, Obj.cells [Value.string tag, rowV R (k)].toArray 102)] (l2 := [(p4, Obj.cells [Value.string ⟨#[]⟩, .slice none 0 0].toArray 102)]) R (len := k) (xs := css.flatten) rfl rfl rfl rfl rfl hrow Tryz.underlying100 ap104 rfl rfl (m := 1) (news := [Value.slice A9 (splitC es[k]).length c9]) (fun i hi => at_ownL (vs := [Value.slice A9 (splitC es[k]).length c9]) (.head _) (by rw [Nat.zero_add]; exact List.getElem?_eq_getElem hi)) rfl (by simp only [maxLen]; omega) (by omega) ?_
    intro R' hR'
    refine x_val rfl rfl rfl (v_fieldAddr (off' := 1) Tryz.underlying102 rfl sz100 (by decide) rfl rfl) ?_
    refine x_store (cs := [Value.string tag, rowV R k]) (off := 1) [(p20, Obj.cells [Value.slice A9 (splitC es[k]).length c9].toArray 104)] rfl rfl rfl rfl sz100 rfl (by show 2 ≤ 2; decide) ?_
    refine x_end ?_
    refine b_norm ?_
    refine t_norm ?_
    refine rg_text ?_
    refine x_val rfl rfl rfl (v_addi rfl rfl rfl (by first | omega | (dsimp only; omega))) ?_
    refine x_val rfl rfl rfl (v_move rfl) ?_
    refine x_end ?_
    refine s_fix ((p5, Obj.cells [Value.string tag, rowV R' (k + 1)].toArray 102) :: (rowO 104 R' ++ [(p4, Obj.cells [Value.string ⟨#[]⟩, .slice none 0 0].toArray 102)])) (List.sublist_cons_self _ _) (fun w0 hm0 => ?_)
    have hT' := snocN (T := tySlice tyStr) (D := newD w ((p5, Obj.cells [Value.string tag, rowV R' (k + 1)].toArray 102) :: (rowO 104 R' ++ [(p4, Obj.cells [Value.string ⟨#[]⟩, .slice none 0 0].toArray 102)]))) (ws := w0) (x := splitC es[k]) hln hcl (fun j h1 h2 => (tySlice tyStr).keep (hrd j h1 h2) (Kept.frz hm0 (List.sublist_cons_self _ _) (by simp))) hR' ⟨_, rfl, hR.keep (Kept.made2 (hm0.less (List.sublist_cons_self _ _) (fun _ h => h)) (.head _) (fun k hk p hp he => by have := hwa.lt hp; omega) (hwa.base (by simp)).size)⟩
    exact l_norm (x := (k, R, ws)) (μ := fun q : Nat × RowS × World => es.length - q.1) (k + 1, R', w0) ⟨by dsimp only; omega, by dsimp only; rw [List.take_succ_eq_append_getElem hkl, List.map_append]; exact hT'⟩ (by simp only; omega) (by repeat (first | exact Sub.nil | refine Sub.cons rfl ?_)) (fun w1 h => h.less (List.Sublist.refl _) (fun q hq => by simp at hq ⊢; rcases hq with h | h; (· exact .inl h); simp [h]))
  · simp only [hb13, decide_eq_false_iff_not] at hc13
    obtain rfl : k = es.length := by omega
    rw [List.take_length] at hT hln
    refine w_exit ?_
    refine t_exit ?_
    refine t_exit ?_
    refine b_hit ?_
    refine t_norm ?_
    refine w_seq ?_
    refine rg_text ?_
    refine x_val rfl rfl rfl (v_load_blk (e := 102) (fz := (0, 0)) (cs := [Value.string tag, rowV R es.length].toArray) Tryz.underlying102 rfl rfl (.head _) sz102) ?_
    refine x_store0 ((p5, Obj.cells [Value.string tag, rowV R (es.length)].toArray 102) :: rowO 104 R) rfl rfl rfl rfl sz102 rfl rfl ?_
    refine x_end ?_
    refine t_norm ?_
    refine w_ret ?_
    refine retc rfl rfl (List.mem_cons_of_mem _ (List.mem_append_right _ (.head _))) Tryz.underlying102 rfl sz102 (fun w' hm => ⟨_, rfl, hm.base (by simp), ?_⟩)
    exact (hT.keep (Kept.frz hm (List.Sublist.refl _) (.head _))).rd (e := 104) hm (fun q hq => List.mem_cons_of_mem _ (List.mem_append_left _ hq)) (fun _ h => h.1) (fun q hq => hm.newer (by simp) (List.mem_cons_of_mem _ (List.mem_append_left _ hq))) hln.symm

end Go.Proofs.YtdampedpgbnihaaGreatDoor
