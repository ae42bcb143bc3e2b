/- Of the proofs of YtbamklefagghcaaDoor: Wc Wd We Wf Wg Wh Wi Wj Wk Wl Wm Wn, put together. -/
import Derived.Test.YtbamklefagghcaaDoorM3
import Derived.Test.YtbamklefagghcaaDoorM2
import Derived.Test.YtbamklefagghcaaDoorShelf
import Derived.Test.YtbamklefagghcaaDoorM1
namespace Go.Proofs.YtbamklefagghcaaDoor
open Go.RowKit Go.PK
set_option linter.unusedVariables false
set_option linter.unusedSimpArgs false
theorem ap5 : (Tryd.prog.info? 5).map (fun j => (j.zero, j.size, j.bytes)) = some (some (.int .u8 0), 1, 1) := by kernel_rfl
theorem lies66 : liesAt Tryd.prog Tryd.prog.depth 66 ((#[Value.nilIface, Value.nilIface] : Array Value).size / Tryd.prog.cellsOf 66) 0 66 1 = true := by kernel_rfl
set_option maxRecDepth 100000 in
theorem c_cc0 {l2 : List (Nat × Obj)} {ro : List Snap} {p : Nat} {r : RowS} {bs : List UInt8} (w : World) (hm : Mem w ((bld2 66 5 p (.pointer none) r (bs.length)) ++ l2) ro) :
    Calls Tryd.prog 43 #[.pointer (some ⟨p, 0, none⟩)] w fun e w' => e = .returned (.tuple #[]) ∧ Mem w' ((bld2 66 5 p (.pointer (some ⟨p, 0, none⟩)) r (bs.length)) ++ l2) ro := by
  refine enter_in hm (vs := [.pointer (some ⟨p, 0, none⟩)]) Tryd.func43 rfl Tryd.ntmps43 rfl ?_
  refine w_seq ?_
  refine rg_text ?_
  refine x_val rfl rfl rfl (v_move rfl) ?_
  refine x_val rfl rfl rfl (v_nilCheck rfl) ?_
  refine x_val rfl rfl rfl (v_fieldAddr (off' := 0) Tryd.underlying66 rfl sz64 (by decide) rfl rfl) ?_
  refine x_val rfl rfl rfl (v_load Tryd.underlying64 rfl rfl (at_ownL (vs := [(.pointer none), rowV r bs.length]) (.head _) rfl)) ?_
  refine x_bool rfl rfl rfl (v_pnil Tryd.underlying64 rfl rfl) ?_
  intro b6 hb6
  refine x_end ?_
  refine t_norm ?_
  refine w_cond rfl (fun hc6 => ?_) (fun hc6 => ?_)
  · skip
    refine rg_text ?_
    refine x_val rfl rfl rfl (v_move rfl) ?_
    refine x_val rfl rfl rfl (v_move rfl) ?_
    refine x_val rfl rfl rfl (v_toUns (e := 66) (cs := #[(.pointer none), rowV r bs.length]) (fz := (0, 0)) (m := 1) Tryd.underlying64 Tryd.underlying94 sz66 rfl (.head _) (show 0 < 2 by decide)) ?_
    refine x_val rfl rfl rfl (v_noEsc Tryd.func52 (by kernel_rfl) (by kernel_rfl) (by kernel_rfl) (by kernel_rfl) rfl) ?_
    refine x_val rfl rfl rfl (v_fromUns (e := 66) (cs := #[(.pointer none), rowV r bs.length]) (fz := (0, 0)) Tryd.underlying94 Tryd.underlying64 ⟨_, (Option.map_eq_some_iff.1 sz66).choose_spec.1⟩ rfl (.head _) lies66) ?_
    refine x_val rfl rfl rfl (v_nilCheck rfl) ?_
    refine x_val rfl rfl rfl (v_fieldAddr (off' := 0) Tryd.underlying66 rfl sz64 (by decide) rfl rfl) ?_
    refine x_store [] rfl rfl rfl rfl sz64 rfl (by show 1 ≤ 2; decide) ?_
    refine x_end ?_
    exact ret0 rfl (fun w' hm' => ⟨rfl, hm'⟩)
  · rw [hb6] at hc6; cases hc6
set_option maxRecDepth 100000 in
theorem c_cc1 {l2 : List (Nat × Obj)} {ro : List Snap} {p : Nat} {r : RowS} {bs : List UInt8} (w : World) (hm : Mem w ((bld2 66 5 p (.pointer (some ⟨p, 0, none⟩)) r (bs.length)) ++ l2) ro) :
    Calls Tryd.prog 43 #[.pointer (some ⟨p, 0, none⟩)] w fun e w' => e = .returned (.tuple #[]) ∧ Mem w' ((bld2 66 5 p (.pointer (some ⟨p, 0, none⟩)) r (bs.length)) ++ l2) ro := by
  refine enter_in hm (vs := [.pointer (some ⟨p, 0, none⟩)]) Tryd.func43 rfl Tryd.ntmps43 rfl ?_
  refine w_seq ?_
  refine rg_text ?_
  refine x_val rfl rfl rfl (v_move rfl) ?_
  refine x_val rfl rfl rfl (v_nilCheck rfl) ?_
  refine x_val rfl rfl rfl (v_fieldAddr (off' := 0) Tryd.underlying66 rfl sz64 (by decide) rfl rfl) ?_
  refine x_val rfl rfl rfl (v_load Tryd.underlying64 rfl rfl (at_ownL (vs := [(.pointer (some ⟨p, 0, none⟩)), rowV r bs.length]) (.head _) rfl)) ?_
  refine x_bool rfl rfl rfl (v_pnil Tryd.underlying64 rfl rfl) ?_
  intro b6 hb6
  refine x_end ?_
  refine t_norm ?_
  refine w_cond rfl (fun hc6 => ?_) (fun hc6 => ?_)
  · rw [hb6] at hc6; cases hc6
  · skip
    refine w_seq ?_
    refine rg_text ?_
    refine x_val rfl rfl rfl (v_move rfl) ?_
    refine x_val rfl rfl rfl (v_nilCheck rfl) ?_
    refine x_val rfl rfl rfl (v_fieldAddr (off' := 0) Tryd.underlying66 rfl sz64 (by decide) rfl rfl) ?_
    refine x_val rfl rfl rfl (v_load Tryd.underlying64 rfl rfl (at_ownL (vs := [(.pointer (some ⟨p, 0, none⟩)), rowV r bs.length]) (.head _) rfl)) ?_
    refine x_val rfl rfl rfl (v_move rfl) ?_
    refine x_bool rfl rfl rfl (v_pne Tryd.underlying64 (Option.map_eq_some_iff.1 sz66).choose_spec.1 rfl rfl) ?_
    intro b19 hb19
    refine x_end ?_
    refine t_norm ?_
    refine w_cond rfl (fun hc19 => ?_) (fun hc19 => ?_)
    · rw [hb19] at hc19; cases hc19
    · skip
      refine w_skip ?_
      exact ret0 rfl (fun w' hm' => ⟨rfl, hm'⟩)
theorem c_cc {l2 : List (Nat × Obj)} {ro : List Snap} {p : Nat} {pp : Value} {r : RowS} {bs : List UInt8} (w : World) (hm : Mem w ((bld2 66 5 p pp r (bs.length)) ++ l2) ro) (hp : ppOK p pp) :
    Calls Tryd.prog 43 #[.pointer (some ⟨p, 0, none⟩)] w fun e w' => e = .returned (.tuple #[]) ∧ Mem w' ((bld2 66 5 p (.pointer (some ⟨p, 0, none⟩)) r (bs.length)) ++ l2) ro := by
  rcases hp with rfl | rfl
  · exact c_cc0 w hm
  · exact c_cc1 w hm
set_option maxRecDepth 100000 in
theorem c_WB {l2 : List (Nat × Obj)} {ro : List Snap} {p : Nat} {pp : Value} {r : RowS} {bs : List UInt8} (w : World) (hm : Mem w ((bld2 66 5 p pp r (bs.length)) ++ l2) ro) (hp : ppOK p pp) (c : UInt8) (hr : rowOK 1 r bs.length (byC bs)) (hl : bs.length ≤ 4000000000000) :
    Calls Tryd.prog 25 #[.pointer (some ⟨p, 0, none⟩), .int .u8 (c.toNat : Nat)] w fun e w' => e = .returned .nilIface ∧ ∃ r', rowOK 1 r' (bs ++ [c]).length (byC (bs ++ [c])) ∧ Mem w' ((bld2 66 5 p (.pointer (some ⟨p, 0, none⟩)) r' ((bs ++ [c]).length)) ++ l2) ro := by
  refine enter_in hm (vs := [.pointer (some ⟨p, 0, none⟩), .int .u8 (c.toNat : Nat)]) Tryd.func25 rfl Tryd.ntmps25 rfl ?_
  refine w_seq ?_
  refine rg_text ?_
  refine x_val rfl rfl rfl (v_assign rfl) ?_
  refine x_end ?_
  refine t_norm ?_
  refine w_seq ?_
  refine rg_text ?_
  refine x_val rfl rfl rfl (v_move rfl) ?_
  refine x_turnf (τ := Unit) (v := .tuple #[]) (fun _ => True) (fun _ => (bld2 66 5 p (.pointer (some ⟨p, 0, none⟩)) r (bs.length)) ++ l2) rfl rfl Tryd.func43 (by kernel_rfl) rfl (fun w1 hw1 => by have hc := c_cc w1 hw1 hp; exact hc.mono fun e w2 h => ⟨h.1, (), trivial, h.2⟩) ?_
  intro _ _
  refine x_end ?_
  refine t_norm ?_
  refine w_seq ?_
  refine rg_text ?_
  refine x_val rfl rfl rfl (v_move rfl) ?_
  refine x_val rfl rfl rfl (v_move rfl) ?_
  refine x_val rfl rfl rfl (v_nilCheck rfl) ?_
  refine x_val rfl rfl rfl (v_fieldAddr (off' := 1) Tryd.underlying66 rfl sz24 (by decide) rfl rfl) ?_
  refine x_val rfl rfl rfl (v_load Tryd.underlying24 rfl rfl (at_ownL (vs := [(.pointer (some ⟨p, 0, none⟩)), rowV r bs.length]) (.head _) rfl)) ?_
  refine x_val rfl rfl rfl (v_move rfl) ?_
  refine x_buildSliceL rfl rfl rfl Tryd.underlying24 sz5 zr5 rfl rfl rfl ?_
  intro p13
  refine x_append (e := 5) [(p13, _), (p, _)] (l2 := l2) r (len := bs.length) (xs := byC bs) rfl rfl rfl rfl rfl hr Tryd.underlying24 ap5 rfl rfl (m := 1) (news := byC [c]) (fun i hi => at_ownL (vs := byC [c]) (.head _) (by rw [Nat.zero_add]; exact List.getElem?_eq_getElem hi)) rfl (by simp only [maxLen]; omega) (by omega) ?_
  intro r' hr'
  refine x_val rfl rfl rfl (v_nilCheck rfl) ?_
  refine x_val rfl rfl rfl (v_fieldAddr (off' := 1) Tryd.underlying66 rfl sz24 (by decide) rfl rfl) ?_
  refine x_store [(p13, _)] rfl rfl rfl rfl sz24 rfl (by show 2 ≤ 2; decide) ?_
  refine x_end ?_
  refine t_norm ?_
  refine w_seq ?_
  refine rg_text ?_
  refine x_val rfl rfl rfl (v_assign rfl) ?_
  refine x_end ?_
  refine t_norm ?_
  refine w_ret ?_
  refine ret1 rfl rfl (fun w' hm' => ⟨rfl, r', ?_, ?_⟩)
  · rw [byC_app, List.length_append]; exact hr'
  · rw [List.length_append]; exact hm'.less (List.sublist_cons_self _ _) (fun _ h => h)
theorem c_BS {l2 : List (Nat × Obj)} {ro : List Snap} {p : Nat} {pp : Value} {r : RowS} {bs : List UInt8} (w : World) (hm : Mem w ((bld2 66 5 p pp r (bs.length)) ++ l2) ro) (hp : ppOK p pp) (hr : rowOK 1 r bs.length (byC bs)) {B : Nat} (hB : ∀ s ∈ ro, s.1.heap.size ≤ B) (h2 : ∀ q ∈ l2, q.1 < B) (hb : ∀ q ∈ (bld2 66 5 p pp r (bs.length)), B ≤ q.1) (hBw : B ≤ w.heap.size) :
    Calls Tryd.prog 28 #[.pointer (some ⟨p, 0, none⟩)] w fun e w' => e = .returned (.string ⟨bs.toArray⟩) ∧ Mem w' l2 ro :=
  (Tryd.Builder_String_any_k B p bs w (bld2_is hm hp hr rfl hb) hBw).mono fun e w' ⟨h1, _, h3, _⟩ => ⟨h1, hm.after hB h2 h3⟩

end Go.Proofs.YtbamklefagghcaaDoor

namespace Go.Proofs.YtbamklefagghcaaDoor
open Go.RowKit Go.PK
set_option linter.unusedVariables false
set_option linter.unusedSimpArgs false
def pieceV : PieceR → Value
  | some (t, c, _) => .tuple #[.string ⟨t.toArray⟩, .int .u8 (c.toNat : Nat), .bool true]
  | none => .tuple #[.string ⟨#[]⟩, .int .u8 0, .bool false]
set_option maxRecDepth 100000 in
theorem c_piece {l1 l2 : List (Nat × Obj)} {ro : List Snap} {p : Nat} (g : Sg) (s : ByteArray) (a : Nat) (w : World) (hm : Mem w (l1 ++ (p, Obj.cells (msgC g s (a)).toArray 54) :: l2) ro) (hs : s.size ≤ 200000000) (ha : a ≤ s.size) :
    Calls Tryd.prog 38 #[.pointer (some ⟨p, 0, none⟩)] w fun e w' => e = .returned (pieceV (pieceP s g a [])) ∧ ∃ a', (∀ t c z, pieceP s g a [] = some (t, c, z) → a' = z) ∧ Mem w' (l1 ++ (p, Obj.cells (msgC g s (a')).toArray 54) :: l2) ro := by
  refine enter_in hm.snap (vs := [.pointer (some ⟨p, 0, none⟩)]) Tryd.func38 rfl Tryd.ntmps38 rfl ?_
  refine w_seq ?_
  refine rg_text ?_
  refine x_val rfl rfl rfl (v_assign rfl) ?_
  refine x_val rfl rfl rfl (v_assign rfl) ?_
  refine x_val rfl rfl rfl (v_assign rfl) ?_
  refine x_end ?_
  refine t_norm ?_
  refine w_seq ?_
  refine rg_text ?_
  refine x_alloc rfl rfl rfl zr66 ?_
  intro p5
  refine x_end ?_
  refine t_norm ?_
  refine w_seq ?_
  refine w_block ?_
  refine w_loop (σ := Nat × List UInt8 × Value × RowS) (fun x => x.1 ≤ s.size ∧ pieceP s g x.1 x.2.1 = pieceP s g a [] ∧ ppOK p5 x.2.2.1 ∧ rowOK 1 x.2.2.2 x.2.1.length (byC x.2.1) ∧ x.2.1.length ≤ x.1) (fun x => [(0, .pointer (some ⟨p, 0, none⟩)), (5, .pointer (some ⟨p5, 0, none⟩))]) (fun x => ((bld2 66 5 p5 x.2.2.1 x.2.2.2 (x.2.1.length)) ++ l1) ++ (p, Obj.cells (msgC g s (x.1)).toArray 54) :: l2) (fun x => (w, notOwn (l1 ++ (p, Obj.cells (msgC g s (a)).toArray 54) :: l2)) :: ro) (fun x => s.size - x.1) ((a, [], .pointer none, none)) (⟨ha, rfl, .inl rfl, rowOK_nil, Nat.zero_le _⟩) (l_start (by repeat (first | exact Sub.nil | refine Sub.cons rfl ?_)) (fun _ h => h)) ?_
  rintro ⟨x, bs, pp, r⟩ ⟨hx, hP, hpp, hr, hbl⟩
  refine w_state ([(0, .pointer (some ⟨p, 0, none⟩)), (5, .pointer (some ⟨p5, 0, none⟩))]) (((bld2 66 5 p5 pp r (bs.length)) ++ l1) ++ (p, Obj.cells (msgC g s (x)).toArray 54) :: l2) ((w, notOwn (l1 ++ (p, Obj.cells (msgC g s (a)).toArray 54) :: l2)) :: ro) ?_
  dsimp only at hx hP hpp hr hbl
  have hpe := piece_eq s g x bs
  refine w_seq ?_
  refine w_seq ?_
  refine rg_draw 10 [(true, 0), (true, 1), (true, 2), (true, 3), (true, 4), (true, 5), (true, 6), (true, 7), (true, 8), (true, 9)] (by kernel_rfl) (by kernel_rfl) ?_
  refine x_val rfl rfl rfl (v_move rfl) ?_
  refine x_val rfl rfl rfl (v_nilCheck rfl) ?_
  refine x_val rfl rfl rfl (v_fieldAddr (off' := 5) Tryd.underlying54 rfl sz3 (by decide) rfl rfl) ?_
  refine x_val rfl rfl rfl (v_load Tryd.underlying3 rfl rfl (at_ownL (vs := msgC g s (x)) (List.mem_append_right _ (.head _)) rfl)) ?_
  refine x_val rfl rfl rfl (v_move rfl) ?_
  refine x_val rfl rfl rfl (v_nilCheck rfl) ?_
  refine x_val rfl rfl rfl (v_fieldAddr (off' := 4) Tryd.underlying54 rfl sz9 (by decide) rfl rfl) ?_
  refine x_val rfl rfl rfl (v_load Tryd.underlying9 rfl rfl (at_ownL (vs := msgC g s (x)) (List.mem_append_right _ (.head _)) rfl)) ?_
  refine x_val rfl rfl rfl (v_len_str Tryd.underlying9 rfl) ?_
  refine x_bool rfl rfl rfl (v_lss rfl rfl) ?_
  intro b16 hb16
  refine x_end ?_
  refine t_norm ?_
  refine w_cond rfl (fun hc16 => ?_) (fun hc16 => ?_)
  · simp only [hb16, decide_eq_true_eq, decide_eq_false_iff_not, Bool.and_eq_true, Bool.or_eq_true, Bool.and_eq_false_iff, Bool.or_eq_false_iff, Bool.not_eq_true', Bool.not_eq_false', ne_eq, Decidable.not_not] at hc16
    have hx2 : x < s.size := by omega
    refine w_skip ?_
    refine t_norm ?_
    refine w_block ?_
    refine w_seq ?_
    refine rg_draw 10 [(true, 0), (true, 1), (true, 2), (true, 3), (true, 4), (true, 5), (true, 6), (true, 7), (true, 8), (true, 9)] (by kernel_rfl) (by kernel_rfl) ?_
    refine x_val rfl rfl rfl (v_move rfl) ?_
    refine x_val rfl rfl rfl (v_nilCheck rfl) ?_
    refine x_val rfl rfl rfl (v_fieldAddr (off' := 4) Tryd.underlying54 rfl sz9 (by decide) rfl rfl) ?_
    refine x_val rfl rfl rfl (v_load Tryd.underlying9 rfl rfl (at_ownL (vs := msgC g s (x)) (List.mem_append_right _ (.head _)) rfl)) ?_
    refine x_val rfl rfl rfl (v_move rfl) ?_
    refine x_val rfl rfl rfl (v_nilCheck rfl) ?_
    refine x_val rfl rfl rfl (v_fieldAddr (off' := 5) Tryd.underlying54 rfl sz3 (by decide) rfl rfl) ?_
    refine x_val rfl rfl rfl (v_load Tryd.underlying3 rfl rfl (at_ownL (vs := msgC g s (x)) (List.mem_append_right _ (.head _)) rfl)) ?_
    refine x_val rfl rfl rfl (v_index Tryd.underlying9 rfl rfl (by omega)) ?_
    refine x_val rfl rfl rfl (v_assign rfl) ?_
    refine x_end ?_
    refine t_norm ?_
    refine w_seq ?_
    refine rg_text ?_
    refine x_val rfl rfl rfl (v_move rfl) ?_
    refine x_val rfl rfl rfl (v_nilCheck rfl) ?_
    refine x_val rfl rfl rfl (v_fieldAddr (off' := 5) Tryd.underlying54 rfl sz3 (by decide) rfl rfl) ?_
    refine x_val rfl rfl rfl (v_load Tryd.underlying3 rfl rfl (at_ownL (vs := msgC g s (x)) (List.mem_append_right _ (.head _)) rfl)) ?_
    refine x_val rfl rfl rfl (v_addi rfl rfl rfl (by omega)) ?_
    refine x_val rfl rfl rfl (v_nilCheck rfl) ?_
    refine x_val rfl rfl rfl (v_fieldAddr (off' := 5) Tryd.underlying54 rfl sz3 (by decide) rfl rfl) ?_
    refine x_store ((bld2 66 5 p5 pp r (bs.length)) ++ l1) rfl rfl rfl rfl sz3 rfl (by show 6 ≤ 6; decide) ?_
    refine x_end ?_
    refine t_norm ?_
    refine w_seq ?_
    refine w_seq ?_
    refine rg_text ?_
    refine x_val rfl rfl rfl (v_move rfl) ?_
    refine x_end ?_
    refine t_norm ?_
    refine w_block ?_
    refine w_seq ?_
    refine w_seq ?_
    refine rg_text ?_
    refine x_val rfl rfl rfl (v_move rfl) ?_
    refine x_val rfl rfl rfl (v_nilCheck rfl) ?_
    refine x_val rfl rfl rfl (v_fieldAddr (off' := 0) Tryd.underlying54 rfl sz52 (by decide) rfl rfl) ?_
    refine x_val rfl rfl rfl (v_fieldAddr (off' := 0) Tryd.underlying52 rfl sz5 (by decide) rfl rfl) ?_
    refine x_val rfl rfl rfl (v_load Tryd.underlying5 rfl rfl (at_ownL (vs := msgC g s (x + 1)) (List.mem_append_right _ (.head _)) rfl)) ?_
    refine x_bool rfl rfl rfl (v_eql rfl rfl) ?_
    intro b40 hb40
    refine x_val rfl rfl rfl (v_assign rfl) ?_
    refine x_end ?_
    refine t_norm ?_
    refine w_cond rfl (fun hc34 => ?_) (fun hc34 => ?_)
    · simp only [hb40, decide_eq_true_eq, decide_eq_false_iff_not, Bool.and_eq_true, Bool.or_eq_true, Bool.and_eq_false_iff, Bool.or_eq_false_iff, Bool.not_eq_true', Bool.not_eq_false', ne_eq, Decidable.not_not] at hc34
      have hsg : byteAt s x = g.c ∨ byteAt s x = g.e ∨ byteAt s x = g.n := .inl (u8_lit.1 hc34)
      refine w_skip ?_
      refine t_norm ?_
      refine w_cond rfl (fun hc34 => ?_) (fun hc34 => ?_)
      · skip
        refine w_seq ?_
        refine rg_text ?_
        refine x_turnf (τ := Unit) (v := .string ⟨bs.toArray⟩) (fun _ => True) (fun _ => l1 ++ (p, Obj.cells (msgC g s (x + 1)).toArray 54) :: l2) rfl rfl Tryd.func28 (by kernel_rfl) rfl (fun w1 hw1 => by
          rw [List.append_assoc] at hw1
          have hB : ∀ q ∈ (bld2 66 5 p5 pp r (bs.length)), w.heap.size ≤ q.1 := hw1.newB (own0 := l1 ++ (p, Obj.cells (msgC g s (a)).toArray 54) :: l2) (.head _) (fun k hk => by simpa using hk)
          have hc := c_BS w1 hw1 hpp hr (B := w.heap.size) (fun q hq => by
            rcases List.mem_cons.1 hq with rfl | hq
            · exact Nat.le_refl _
            · exact (hm.ro_st q hq).2.2.2) (fun q hq => by
              obtain ⟨q2, hq2, e⟩ : ∃ q2 ∈ l1 ++ (p, Obj.cells (msgC g s (a)).toArray 54) :: l2, q2.1 = q.1 := by
                simp only [List.mem_append, List.mem_cons] at hq ⊢
                rcases hq with hq | rfl | hq
                · exact ⟨q, .inl hq, rfl⟩
                · exact ⟨_, .inr (.inl rfl), rfl⟩
                · exact ⟨q, .inr (.inr hq), rfl⟩
              rw [← e]; exact hm.lt hq2) hB (hw1.ro_st _ (.head _)).2.2.2
          exact hc.mono fun e w2 h => ⟨h.1, (), trivial, h.2⟩) ?_
        intro _ _
        refine x_val rfl rfl rfl (v_move rfl) ?_
        refine x_val rfl rfl rfl (v_assign rfl) ?_
        refine x_val rfl rfl rfl (v_assign rfl) ?_
        refine x_val rfl rfl rfl (v_assign rfl) ?_
        refine x_end ?_
        refine t_norm ?_
        refine w_ret ?_
        refine b_ret ?_
        refine t_ret ?_
        refine b_ret ?_
        refine t_ret ?_
        refine b_ret ?_
        refine t_ret ?_
        refine ret3 rfl rfl rfl rfl (fun w' hm' => ?_)
        have eP : pieceP s g a [] = some (bs, byteAt s x, x + 1) := by rw [← hP, hpe, if_pos hx2, if_pos hsg]
        rw [eP]
        exact ⟨rfl, x + 1, fun t c z h => by injection h with h; injection h with _ h; injection h with _ h, hm'.less (List.Sublist.refl _) (fun q hq => .tail _ hq)⟩
      · simp only [hb40, decide_eq_true_eq, decide_eq_false_iff_not, Bool.and_eq_true, Bool.or_eq_true, Bool.and_eq_false_iff, Bool.or_eq_false_iff, Bool.not_eq_true', Bool.not_eq_false', ne_eq, Decidable.not_not] at hc34
        omega
    · simp only [hb40, decide_eq_true_eq, decide_eq_false_iff_not, Bool.and_eq_true, Bool.or_eq_true, Bool.and_eq_false_iff, Bool.or_eq_false_iff, Bool.not_eq_true', Bool.not_eq_false', ne_eq, Decidable.not_not] at hc34
      have h34a := hc34
      refine w_seq ?_
      refine rg_text ?_
      refine x_val rfl rfl rfl (v_move rfl) ?_
      refine x_val rfl rfl rfl (v_nilCheck rfl) ?_
      refine x_val rfl rfl rfl (v_fieldAddr (off' := 0) Tryd.underlying54 rfl sz52 (by decide) rfl rfl) ?_
      refine x_val rfl rfl rfl (v_fieldAddr (off' := 1) Tryd.underlying52 rfl sz5 (by decide) rfl rfl) ?_
      refine x_val rfl rfl rfl (v_load Tryd.underlying5 rfl rfl (at_ownL (vs := msgC g s (x + 1)) (List.mem_append_right _ (.head _)) rfl)) ?_
      refine x_bool rfl rfl rfl (v_eql rfl rfl) ?_
      intro b46 hb46
      refine x_val rfl rfl rfl (v_assign rfl) ?_
      refine x_end ?_
      refine t_norm ?_
      refine w_cond rfl (fun hc34 => ?_) (fun hc34 => ?_)
      · simp only [hb46, decide_eq_true_eq, decide_eq_false_iff_not, Bool.and_eq_true, Bool.or_eq_true, Bool.and_eq_false_iff, Bool.or_eq_false_iff, Bool.not_eq_true', Bool.not_eq_false', ne_eq, Decidable.not_not] at hc34
        have hsg : byteAt s x = g.c ∨ byteAt s x = g.e ∨ byteAt s x = g.n := .inr (.inl (u8_lit.1 hc34))
        refine w_skip ?_
        refine t_norm ?_
        refine w_cond rfl (fun hc34 => ?_) (fun hc34 => ?_)
        · skip
          refine w_seq ?_
          refine rg_text ?_
          refine x_turnf (τ := Unit) (v := .string ⟨bs.toArray⟩) (fun _ => True) (fun _ => l1 ++ (p, Obj.cells (msgC g s (x + 1)).toArray 54) :: l2) rfl rfl Tryd.func28 (by kernel_rfl) rfl (fun w1 hw1 => by
            rw [List.append_assoc] at hw1
            have hB : ∀ q ∈ (bld2 66 5 p5 pp r (bs.length)), w.heap.size ≤ q.1 := hw1.newB (own0 := l1 ++ (p, Obj.cells (msgC g s (a)).toArray 54) :: l2) (.head _) (fun k hk => by simpa using hk)
            have hc := c_BS w1 hw1 hpp hr (B := w.heap.size) (fun q hq => by
              rcases List.mem_cons.1 hq with rfl | hq
              · exact Nat.le_refl _
              · exact (hm.ro_st q hq).2.2.2) (fun q hq => by
                obtain ⟨q2, hq2, e⟩ : ∃ q2 ∈ l1 ++ (p, Obj.cells (msgC g s (a)).toArray 54) :: l2, q2.1 = q.1 := by
                  simp only [List.mem_append, List.mem_cons] at hq ⊢
                  rcases hq with hq | rfl | hq
                  · exact ⟨q, .inl hq, rfl⟩
                  · exact ⟨_, .inr (.inl rfl), rfl⟩
                  · exact ⟨q, .inr (.inr hq), rfl⟩
                rw [← e]; exact hm.lt hq2) hB (hw1.ro_st _ (.head _)).2.2.2
            exact hc.mono fun e w2 h => ⟨h.1, (), trivial, h.2⟩) ?_
          intro _ _
          refine x_val rfl rfl rfl (v_move rfl) ?_
          refine x_val rfl rfl rfl (v_assign rfl) ?_
          refine x_val rfl rfl rfl (v_assign rfl) ?_
          refine x_val rfl rfl rfl (v_assign rfl) ?_
          refine x_end ?_
          refine t_norm ?_
          refine w_ret ?_
          refine b_ret ?_
          refine t_ret ?_
          refine b_ret ?_
          refine t_ret ?_
          refine b_ret ?_
          refine t_ret ?_
          refine ret3 rfl rfl rfl rfl (fun w' hm' => ?_)
          have eP : pieceP s g a [] = some (bs, byteAt s x, x + 1) := by rw [← hP, hpe, if_pos hx2, if_pos hsg]
          rw [eP]
          exact ⟨rfl, x + 1, fun t c z h => by injection h with h; injection h with _ h; injection h with _ h, hm'.less (List.Sublist.refl _) (fun q hq => .tail _ hq)⟩
        · simp only [hb46, decide_eq_true_eq, decide_eq_false_iff_not, Bool.and_eq_true, Bool.or_eq_true, Bool.and_eq_false_iff, Bool.or_eq_false_iff, Bool.not_eq_true', Bool.not_eq_false', ne_eq, Decidable.not_not] at hc34
          omega
      · simp only [hb46, decide_eq_true_eq, decide_eq_false_iff_not, Bool.and_eq_true, Bool.or_eq_true, Bool.and_eq_false_iff, Bool.or_eq_false_iff, Bool.not_eq_true', Bool.not_eq_false', ne_eq, Decidable.not_not] at hc34
        have h34b := hc34
        refine rg_text ?_
        refine x_val rfl rfl rfl (v_move rfl) ?_
        refine x_val rfl rfl rfl (v_nilCheck rfl) ?_
        refine x_val rfl rfl rfl (v_fieldAddr (off' := 0) Tryd.underlying54 rfl sz52 (by decide) rfl rfl) ?_
        refine x_val rfl rfl rfl (v_fieldAddr (off' := 3) Tryd.underlying52 rfl sz5 (by decide) rfl rfl) ?_
        refine x_val rfl rfl rfl (v_load Tryd.underlying5 rfl rfl (at_ownL (vs := msgC g s (x + 1)) (List.mem_append_right _ (.head _)) rfl)) ?_
        refine x_bool rfl rfl rfl (v_eql rfl rfl) ?_
        intro b52 hb52
        refine x_val rfl rfl rfl (v_assign rfl) ?_
        refine x_end ?_
        refine t_norm ?_
        refine w_cond rfl (fun hc34 => ?_) (fun hc34 => ?_)
        · simp only [hb52, decide_eq_true_eq, decide_eq_false_iff_not, Bool.and_eq_true, Bool.or_eq_true, Bool.and_eq_false_iff, Bool.or_eq_false_iff, Bool.not_eq_true', Bool.not_eq_false', ne_eq, Decidable.not_not] at hc34
          have hsg : byteAt s x = g.c ∨ byteAt s x = g.e ∨ byteAt s x = g.n := .inr (.inr (u8_lit.1 hc34))
          refine w_seq ?_
          refine rg_text ?_
          refine x_turnf (τ := Unit) (v := .string ⟨bs.toArray⟩) (fun _ => True) (fun _ => l1 ++ (p, Obj.cells (msgC g s (x + 1)).toArray 54) :: l2) rfl rfl Tryd.func28 (by kernel_rfl) rfl (fun w1 hw1 => by
            rw [List.append_assoc] at hw1
            have hB : ∀ q ∈ (bld2 66 5 p5 pp r (bs.length)), w.heap.size ≤ q.1 := hw1.newB (own0 := l1 ++ (p, Obj.cells (msgC g s (a)).toArray 54) :: l2) (.head _) (fun k hk => by simpa using hk)
            have hc := c_BS w1 hw1 hpp hr (B := w.heap.size) (fun q hq => by
              rcases List.mem_cons.1 hq with rfl | hq
              · exact Nat.le_refl _
              · exact (hm.ro_st q hq).2.2.2) (fun q hq => by
                obtain ⟨q2, hq2, e⟩ : ∃ q2 ∈ l1 ++ (p, Obj.cells (msgC g s (a)).toArray 54) :: l2, q2.1 = q.1 := by
                  simp only [List.mem_append, List.mem_cons] at hq ⊢
                  rcases hq with hq | rfl | hq
                  · exact ⟨q, .inl hq, rfl⟩
                  · exact ⟨_, .inr (.inl rfl), rfl⟩
                  · exact ⟨q, .inr (.inr hq), rfl⟩
                rw [← e]; exact hm.lt hq2) hB (hw1.ro_st _ (.head _)).2.2.2
            exact hc.mono fun e w2 h => ⟨h.1, (), trivial, h.2⟩) ?_
          intro _ _
          refine x_val rfl rfl rfl (v_move rfl) ?_
          refine x_val rfl rfl rfl (v_assign rfl) ?_
          refine x_val rfl rfl rfl (v_assign rfl) ?_
          refine x_val rfl rfl rfl (v_assign rfl) ?_
          refine x_end ?_
          refine t_norm ?_
          refine w_ret ?_
          refine b_ret ?_
          refine t_ret ?_
          refine b_ret ?_
          refine t_ret ?_
          refine b_ret ?_
          refine t_ret ?_
          refine ret3 rfl rfl rfl rfl (fun w' hm' => ?_)
          have eP : pieceP s g a [] = some (bs, byteAt s x, x + 1) := by rw [← hP, hpe, if_pos hx2, if_pos hsg]
          rw [eP]
          exact ⟨rfl, x + 1, fun t c z h => by injection h with h; injection h with _ h; injection h with _ h, hm'.less (List.Sublist.refl _) (fun q hq => .tail _ hq)⟩
        · simp only [hb52, decide_eq_true_eq, decide_eq_false_iff_not, Bool.and_eq_true, Bool.or_eq_true, Bool.and_eq_false_iff, Bool.or_eq_false_iff, Bool.not_eq_true', Bool.not_eq_false', ne_eq, Decidable.not_not] at hc34
          have hns : ¬(byteAt s x = g.c ∨ byteAt s x = g.e ∨ byteAt s x = g.n) := fun h => by rcases h with h | h | h <;> (rw [h] at h34a h34b hc34; omega)
          refine w_seq ?_
          refine rg_text ?_
          refine x_val rfl rfl rfl (v_move rfl) ?_
          refine x_val rfl rfl rfl (v_nilCheck rfl) ?_
          refine x_val rfl rfl rfl (v_fieldAddr (off' := 0) Tryd.underlying54 rfl sz52 (by decide) rfl rfl) ?_
          refine x_val rfl rfl rfl (v_fieldAddr (off' := 2) Tryd.underlying52 rfl sz5 (by decide) rfl rfl) ?_
          refine x_val rfl rfl rfl (v_load Tryd.underlying5 rfl rfl (at_ownL (vs := msgC g s (x + 1)) (List.mem_append_right _ (.head _)) rfl)) ?_
          refine x_bool rfl rfl rfl (v_eql rfl rfl) ?_
          intro b61 hb61
          refine x_val rfl rfl rfl (v_assign rfl) ?_
          refine x_end ?_
          refine t_norm ?_
          refine w_cond rfl (fun hc55 => ?_) (fun hc55 => ?_)
          · simp only [hb61, decide_eq_true_eq, decide_eq_false_iff_not, Bool.and_eq_true, Bool.or_eq_true, Bool.and_eq_false_iff, Bool.or_eq_false_iff, Bool.not_eq_true', Bool.not_eq_false', ne_eq, Decidable.not_not] at hc55
            have hrl : byteAt s x = g.r := u8_lit.1 hc55
            refine w_seq ?_
            refine w_seq ?_
            refine rg_draw 10 [(true, 0), (true, 1), (true, 2), (true, 3), (true, 4), (true, 5), (true, 6), (true, 7), (true, 8), (true, 9)] (by kernel_rfl) (by kernel_rfl) ?_
            refine x_val rfl rfl rfl (v_move rfl) ?_
            refine x_val rfl rfl rfl (v_nilCheck rfl) ?_
            refine x_val rfl rfl rfl (v_fieldAddr (off' := 5) Tryd.underlying54 rfl sz3 (by decide) rfl rfl) ?_
            refine x_val rfl rfl rfl (v_load Tryd.underlying3 rfl rfl (at_ownL (vs := msgC g s (x + 1)) (List.mem_append_right _ (.head _)) rfl)) ?_
            refine x_val rfl rfl rfl (v_move rfl) ?_
            refine x_val rfl rfl rfl (v_nilCheck rfl) ?_
            refine x_val rfl rfl rfl (v_fieldAddr (off' := 4) Tryd.underlying54 rfl sz9 (by decide) rfl rfl) ?_
            refine x_val rfl rfl rfl (v_load Tryd.underlying9 rfl rfl (at_ownL (vs := msgC g s (x + 1)) (List.mem_append_right _ (.head _)) rfl)) ?_
            refine x_val rfl rfl rfl (v_len_str Tryd.underlying9 rfl) ?_
            refine x_bool rfl rfl rfl (v_eql rfl rfl) ?_
            intro b71 hb71
            refine x_end ?_
            refine t_norm ?_
            refine w_cond rfl (fun hc71 => ?_) (fun hc71 => ?_)
            · simp only [hb71, decide_eq_true_eq, decide_eq_false_iff_not, Bool.and_eq_true, Bool.or_eq_true, Bool.and_eq_false_iff, Bool.or_eq_false_iff, Bool.not_eq_true', Bool.not_eq_false', ne_eq, Decidable.not_not] at hc71
              have he : x + 1 = s.size := by omega
              refine w_seq ?_
              refine rg_text ?_
              refine x_val rfl rfl rfl (v_assign rfl) ?_
              refine x_val rfl rfl rfl (v_assign rfl) ?_
              refine x_val rfl rfl rfl (v_assign rfl) ?_
              refine x_end ?_
              refine t_norm ?_
              refine w_ret ?_
              refine t_ret ?_
              refine b_ret ?_
              refine t_ret ?_
              refine b_ret ?_
              refine t_ret ?_
              refine b_ret ?_
              refine t_ret ?_
              refine ret3 rfl rfl rfl rfl (fun w' hm' => ?_)
              have eP : pieceP s g a [] = none := by rw [← hP, hpe, if_pos hx2, if_neg hns, if_pos hrl, if_pos he]
              rw [eP]
              exact ⟨rfl, x + 1, fun t c z h => (by cases h), hm'.less (by rw [List.append_assoc]; exact List.sublist_append_right _ _) (fun q hq => .tail _ hq)⟩
            · simp only [hb71, decide_eq_true_eq, decide_eq_false_iff_not, Bool.and_eq_true, Bool.or_eq_true, Bool.and_eq_false_iff, Bool.or_eq_false_iff, Bool.not_eq_true', Bool.not_eq_false', ne_eq, Decidable.not_not] at hc71
              have he : ¬x + 1 = s.size := by omega
              refine w_skip ?_
              refine t_norm ?_
              refine w_seq ?_
              refine rg_draw 10 [(true, 0), (true, 1), (true, 2), (true, 3), (true, 4), (true, 5), (true, 6), (true, 7), (true, 8), (true, 9)] (by kernel_rfl) (by kernel_rfl) ?_
              refine x_val rfl rfl rfl (v_move rfl) ?_
              refine x_val rfl rfl rfl (v_nilCheck rfl) ?_
              refine x_val rfl rfl rfl (v_fieldAddr (off' := 4) Tryd.underlying54 rfl sz9 (by decide) rfl rfl) ?_
              refine x_val rfl rfl rfl (v_load Tryd.underlying9 rfl rfl (at_ownL (vs := msgC g s (x + 1)) (List.mem_append_right _ (.head _)) rfl)) ?_
              refine x_val rfl rfl rfl (v_move rfl) ?_
              refine x_val rfl rfl rfl (v_nilCheck rfl) ?_
              refine x_val rfl rfl rfl (v_fieldAddr (off' := 5) Tryd.underlying54 rfl sz3 (by decide) rfl rfl) ?_
              refine x_val rfl rfl rfl (v_load Tryd.underlying3 rfl rfl (at_ownL (vs := msgC g s (x + 1)) (List.mem_append_right _ (.head _)) rfl)) ?_
              refine x_val rfl rfl rfl (v_index Tryd.underlying9 rfl rfl (by omega)) ?_
              refine x_val rfl rfl rfl (v_assign rfl) ?_
              refine x_end ?_
              refine t_norm ?_
              refine rg_text ?_
              refine x_val rfl rfl rfl (v_move rfl) ?_
              refine x_val rfl rfl rfl (v_nilCheck rfl) ?_
              refine x_val rfl rfl rfl (v_fieldAddr (off' := 5) Tryd.underlying54 rfl sz3 (by decide) rfl rfl) ?_
              refine x_val rfl rfl rfl (v_load Tryd.underlying3 rfl rfl (at_ownL (vs := msgC g s (x + 1)) (List.mem_append_right _ (.head _)) rfl)) ?_
              refine x_val rfl rfl rfl (v_addi rfl rfl rfl (by omega)) ?_
              refine x_val rfl rfl rfl (v_nilCheck rfl) ?_
              refine x_val rfl rfl rfl (v_fieldAddr (off' := 5) Tryd.underlying54 rfl sz3 (by decide) rfl rfl) ?_
              refine x_store ((bld2 66 5 p5 pp r (bs.length)) ++ l1) rfl rfl rfl rfl sz3 rfl (by show 6 ≤ 6; decide) ?_
              refine x_end ?_
              refine b_norm ?_
              refine t_norm ?_
              refine rg_text ?_
              refine x_val rfl rfl rfl (v_move rfl) ?_
              refine x_turnf (τ := RowS) (v := .nilIface) (fun r' => rowOK 1 r' (bs ++ [byteAt s (x + 1)]).length (byC (bs ++ [byteAt s (x + 1)]))) (fun r' => ((bld2 66 5 p5 (.pointer (some ⟨p5, 0, none⟩)) r' ((bs ++ [byteAt s (x + 1)]).length)) ++ l1) ++ (p, Obj.cells (msgC g s (x + 2)).toArray 54) :: l2) rfl rfl Tryd.func25 (by kernel_rfl) rfl (fun w1 hw1 => by
                rw [List.append_assoc] at hw1
                have hc := c_WB w1 hw1 hpp (byteAt s (x + 1)) hr (by omega)
                exact hc.mono fun e w2 ⟨h1, r', h2, h3⟩ => ⟨h1, r', h2, by rw [List.append_assoc]; exact h3⟩) ?_
              intro r' hr'
              refine x_end ?_
              refine b_norm ?_
              exact l_norm (x + 2, bs ++ [byteAt s (x + 1)], (.pointer (some ⟨p5, 0, none⟩)), r') ⟨by dsimp only; omega, by dsimp only; rw [← hP, hpe, if_pos hx2, if_neg hns, if_pos hrl, if_neg he], .inr rfl, hr', by dsimp only; rw [List.length_append, List.length_singleton]; omega⟩ (by simp only; omega) (by repeat (first | exact Sub.nil | refine Sub.cons rfl ?_)) (fun _ h => h)
          · simp only [hb61, decide_eq_true_eq, decide_eq_false_iff_not, Bool.and_eq_true, Bool.or_eq_true, Bool.and_eq_false_iff, Bool.or_eq_false_iff, Bool.not_eq_true', Bool.not_eq_false', ne_eq, Decidable.not_not] at hc55
            have hrl : ¬byteAt s x = g.r := fun h => hc55 (u8_lit.2 h)
            refine w_skip ?_
            refine b_norm ?_
            refine t_norm ?_
            refine rg_text ?_
            refine x_val rfl rfl rfl (v_move rfl) ?_
            refine x_turnf (τ := RowS) (v := .nilIface) (fun r' => rowOK 1 r' (bs ++ [byteAt s x]).length (byC (bs ++ [byteAt s x]))) (fun r' => ((bld2 66 5 p5 (.pointer (some ⟨p5, 0, none⟩)) r' ((bs ++ [byteAt s x]).length)) ++ l1) ++ (p, Obj.cells (msgC g s (x + 1)).toArray 54) :: l2) rfl rfl Tryd.func25 (by kernel_rfl) rfl (fun w1 hw1 => by
              rw [List.append_assoc] at hw1
              have hc := c_WB w1 hw1 hpp (byteAt s x) hr (by omega)
              exact hc.mono fun e w2 ⟨h1, r', h2, h3⟩ => ⟨h1, r', h2, by rw [List.append_assoc]; exact h3⟩) ?_
            intro r' hr'
            refine x_end ?_
            refine b_norm ?_
            exact l_norm (x + 1, bs ++ [byteAt s x], (.pointer (some ⟨p5, 0, none⟩)), r') ⟨by dsimp only; omega, by dsimp only; rw [← hP, hpe, if_pos hx2, if_neg hns, if_neg hrl], .inr rfl, hr', by dsimp only; rw [List.length_append, List.length_singleton]; omega⟩ (by simp only; omega) (by repeat (first | exact Sub.nil | refine Sub.cons rfl ?_)) (fun _ h => h)
  · simp only [hb16, decide_eq_true_eq, decide_eq_false_iff_not, Bool.and_eq_true, Bool.or_eq_true, Bool.and_eq_false_iff, Bool.or_eq_false_iff, Bool.not_eq_true', Bool.not_eq_false', ne_eq, Decidable.not_not] at hc16
    have hx2 : ¬x < s.size := by omega
    refine w_exit ?_
    refine t_exit ?_
    refine t_exit ?_
    refine b_hit ?_
    refine t_norm ?_
    refine w_seq ?_
    refine rg_text ?_
    refine x_val rfl rfl rfl (v_assign rfl) ?_
    refine x_val rfl rfl rfl (v_assign rfl) ?_
    refine x_val rfl rfl rfl (v_assign rfl) ?_
    refine x_end ?_
    refine t_norm ?_
    refine w_ret ?_
    refine ret3 rfl rfl rfl rfl (fun w' hm' => ?_)
    have eP : pieceP s g a [] = none := by rw [← hP, hpe, if_neg hx2]
    rw [eP]
    exact ⟨rfl, x, fun t c z h => (by cases h), hm'.less (by rw [List.append_assoc]; exact List.sublist_append_right _ _) (fun q hq => .tail _ hq)⟩

end Go.Proofs.YtbamklefagghcaaDoor

namespace Go.Proofs.YtbamklefagghcaaDoor
open Go.RowKit Go.PK
set_option linter.unusedVariables false
set_option linter.unusedSimpArgs false
theorem ap25 : (Tryd.prog.info? 25).map (fun j => (j.zero, j.size, j.bytes)) = some (some (.slice none 0 0), 1, 24) := by kernel_rfl
theorem ap9 : (Tryd.prog.info? 9).map (fun j => (j.zero, j.size, j.bytes)) = some (some (.string ⟨#[]⟩), 1, 16) := by kernel_rfl
theorem pieceV_is (x : PieceR) : ∃ (t : ByteArray) (c : UInt8) (k : Bool), pieceV x = .tuple #[.string t, .int .u8 (c.toNat : Nat), .bool k] ∧ (k = true → ∃ l z, x = some (l, c, z) ∧ t = ⟨l.toArray⟩) ∧ (k = false → x = none) := by
  match x with
  | none => exact ⟨_, 0, false, rfl, fun h => (by cases h), fun _ => rfl⟩
  | some (l, c, z) => exact ⟨_, c, true, rfl, fun _ => ⟨l, z, rfl, rfl⟩, fun h => (by cases h)⟩
set_option maxRecDepth 100000 in
theorem c_elements {l1 l2 : List (Nat × Obj)} {ro : List Snap} {p : Nat} (g : Sg) (s : ByteArray) (a : Nat) (w : World) (hm : Mem w (l1 ++ (p, Obj.cells (msgC g s (a)).toArray 54) :: l2) ro) (hs : s.size ≤ 200000000) (ha : a < s.size) (hen : byteAt s a = g.e ∨ byteAt s a = g.n) :
    Calls Tryd.prog 18 #[.pointer (some ⟨p, 0, none⟩)] w fun e w' => ∃ v, e = .returned v ∧ ∃ a', (∃ u, v = .tuple #[u, .bool (elP s g (byteAt s a) (a + 1) []).isSome] ∧ ∀ l z, elP s g (byteAt s a) (a + 1) [] = some (l, z) → a' = z ∧ sliceRd (tySlice tyStr) (fun b => w.heap.size ≤ b) w' u l) ∧ Mem w' (l1 ++ (p, Obj.cells (msgC g s (a')).toArray 54) :: l2) ro := by
  refine enter_in hm.snap (vs := [.pointer (some ⟨p, 0, none⟩)]) Tryd.func18 rfl Tryd.ntmps18 rfl ?_
  refine w_seq ?_
  refine rg_text ?_
  refine x_val rfl rfl rfl (v_assign rfl) ?_
  refine x_val rfl rfl rfl (v_assign rfl) ?_
  refine x_end ?_
  refine t_norm ?_
  refine w_seq ?_
  refine rg_text ?_
  refine x_val rfl rfl rfl (v_assign rfl) ?_
  refine x_end ?_
  refine t_norm ?_
  refine w_seq ?_
  refine w_seq ?_
  refine rg_text ?_
  refine x_val rfl rfl rfl (v_move rfl) ?_
  refine x_turnf (τ := Unit) (v := .int .u8 ((byteAt s a).toNat : Nat)) (fun _ => True) (fun _ => l1 ++ (p, Obj.cells (msgC g s (a + 1)).toArray 54) :: l2) rfl rfl Tryd.func37 (by kernel_rfl) rfl (fun w1 hw1 => (c_next g s a w1 hw1 hs ha).mono fun e w2 h => ⟨h.1, (), trivial, h.2⟩) ?_
  intro _ _
  refine x_val rfl rfl rfl (v_assign rfl) ?_
  refine x_end ?_
  refine t_norm ?_
  refine w_block ?_
  refine w_loop (σ := UInt8 × Nat × List (List ByteArray) × RowS × List RowS) (fun x => x.2.1 ≤ s.size ∧ a < x.2.1 ∧ elP s g x.1 x.2.1 x.2.2.1 = elP s g (byteAt s a) (a + 1) [] ∧ SSOK x.2.2.2.1 x.2.2.2.2 x.2.2.1 ∧ (x.1 = g.e ∨ x.1 = g.n ∨ x.2.2.1 ≠ []) ∧ x.2.2.1.length + 1 ≤ x.2.1 ∧ ∀ y ∈ x.2.2.1, y.length ≤ x.2.1 ∧ ∀ t ∈ y, t.size ≤ s.size) (fun x => [(0, .pointer (some ⟨p, 0, none⟩)), (4, rowV x.2.2.2.1 x.2.2.1.length), (5, Value.int .u8 (x.1.toNat : Nat))]) (fun x => rowO 25 x.2.2.2.1 ++ (inO 9 x.2.2.2.2 ++ (l1 ++ (p, Obj.cells (msgC g s (x.2.1)).toArray 54) :: l2))) (fun x => (w, notOwn (l1 ++ (p, Obj.cells (msgC g s (a)).toArray 54) :: l2)) :: ro) (fun x => s.size + 1 - x.2.1) ((byteAt s a, a + 1, [], none, [])) (⟨ha, Nat.lt_succ_self _, rfl, SSOK.nil, by rcases hen with h | h; (· exact .inl h); exact .inr (.inl h), by dsimp only [List.length_nil]; omega, fun y hy => by cases hy⟩) (l_start (by repeat (first | exact Sub.nil | refine Sub.cons rfl ?_)) (fun _ h => h)) ?_
  rintro ⟨c, x, xs, R, Ss⟩ ⟨hx, hax, hE, hS, hne, hz1, hz2⟩
  refine w_state ([(0, .pointer (some ⟨p, 0, none⟩)), (4, rowV R xs.length), (5, Value.int .u8 (c.toNat : Nat))]) (rowO 25 R ++ (inO 9 Ss ++ (l1 ++ (p, Obj.cells (msgC g s (x)).toArray 54) :: l2))) ((w, notOwn (l1 ++ (p, Obj.cells (msgC g s (a)).toArray 54) :: l2)) :: ro) ?_
  dsimp only at hx hax hE hS hne hz1 hz2
  have hee := el_eq s g c x xs
  refine w_seq ?_
  refine w_seq ?_
  refine rg_text ?_
  refine x_val rfl rfl rfl (v_move rfl) ?_
  refine x_val rfl rfl rfl (v_move rfl) ?_
  refine x_val rfl rfl rfl (v_nilCheck rfl) ?_
  refine x_val rfl rfl rfl (v_fieldAddr (off' := 0) Tryd.underlying54 rfl sz52 (by decide) rfl rfl) ?_
  refine x_val rfl rfl rfl (v_fieldAddr (off' := 3) Tryd.underlying52 rfl sz5 (by decide) rfl rfl) ?_
  refine x_val rfl rfl rfl (v_load Tryd.underlying5 rfl rfl (at_ownL (vs := msgC g s (x)) (List.mem_append_right _ (List.mem_append_right _ (List.mem_append_right _ (.head _)))) rfl)) ?_
  refine x_bool rfl rfl rfl (v_neq rfl rfl) ?_
  intro b17 hb17
  refine x_end ?_
  refine t_norm ?_
  refine w_cond rfl (fun hc17 => ?_) (fun hc17 => ?_)
  · simp only [hb17, decide_eq_true_eq, decide_eq_false_iff_not, Bool.and_eq_true, Bool.or_eq_true, Bool.and_eq_false_iff, Bool.or_eq_false_iff, Bool.not_eq_true', Bool.not_eq_false', ne_eq, Decidable.not_not] at hc17
    have hcn : ¬c = g.n := fun h => hc17 (u8_lit.2 h)
    rw [if_neg hcn] at hee
    refine w_skip ?_
    refine t_norm ?_
    refine w_block ?_
    refine w_seq_cut (σ := List (List ByteArray) × RowS × List RowS) (fun q => q.1 = newEl g c xs ∧ q.1 ≠ [] ∧ SSOK q.2.1 q.2.2 q.1 ∧ q.1.length ≤ x ∧ ∀ y ∈ q.1, y.length ≤ x ∧ ∀ t ∈ y, t.size ≤ s.size) (fun q => [(0, .pointer (some ⟨p, 0, none⟩)), (4, rowV q.2.1 q.1.length)]) (fun q => rowO 25 q.2.1 ++ (inO 9 q.2.2 ++ (l1 ++ (p, Obj.cells (msgC g s (x)).toArray 54) :: l2))) (fun q => (w, notOwn (l1 ++ (p, Obj.cells (msgC g s (a)).toArray 54) :: l2)) :: ro) ?_ ?_
    · refine w_seq ?_
      refine rg_text ?_
      refine x_val rfl rfl rfl (v_move rfl) ?_
      refine x_val rfl rfl rfl (v_move rfl) ?_
      refine x_val rfl rfl rfl (v_nilCheck rfl) ?_
      refine x_val rfl rfl rfl (v_fieldAddr (off' := 0) Tryd.underlying54 rfl sz52 (by decide) rfl rfl) ?_
      refine x_val rfl rfl rfl (v_fieldAddr (off' := 1) Tryd.underlying52 rfl sz5 (by decide) rfl rfl) ?_
      refine x_val rfl rfl rfl (v_load Tryd.underlying5 rfl rfl (at_ownL (vs := msgC g s (x)) (List.mem_append_right _ (List.mem_append_right _ (List.mem_append_right _ (.head _)))) rfl)) ?_
      refine x_bool rfl rfl rfl (v_eql rfl rfl) ?_
      intro b24 hb24
      refine x_end ?_
      refine t_norm ?_
      refine w_cond rfl (fun hc24 => ?_) (fun hc24 => ?_)
      · simp only [hb24, decide_eq_true_eq, decide_eq_false_iff_not, Bool.and_eq_true, Bool.or_eq_true, Bool.and_eq_false_iff, Bool.or_eq_false_iff, Bool.not_eq_true', Bool.not_eq_false', ne_eq, Decidable.not_not] at hc24
        have hce : c = g.e := u8_lit.1 hc24
        refine rg_text ?_
        refine x_val rfl rfl rfl (v_move rfl) ?_
        refine x_buildSliceL rfl rfl rfl Tryd.underlying38 sz25 zr25 rfl rfl rfl ?_
        intro p26
        refine x_append (e := 25) [(p26, _)] (l2 := inO 9 Ss ++ (l1 ++ (p, Obj.cells (msgC g s (x)).toArray 54) :: l2)) R (len := xs.length) (xs := ssC xs Ss) rfl rfl rfl rfl rfl hS.row Tryd.underlying38 ap25 rfl rfl (m := 1) (news := [Value.slice none 0 0]) (fun i hi => at_ownL (vs := [Value.slice none 0 0]) (.head _) (by rw [Nat.zero_add]; exact List.getElem?_eq_getElem hi)) rfl (by simp only [maxLen]; omega) (by omega) ?_
        intro R' hR'
        refine x_val rfl rfl rfl (v_assign rfl) ?_
        refine x_end ?_
        exact c_norm (xs ++ [[]], R', Ss ++ [none]) (⟨by unfold newEl; rw [if_pos hce], by simp, hS.snoc hR' rowOK_nil, by dsimp only; rw [List.length_append, List.length_singleton]; omega, fun y hy => by rcases List.mem_append.1 hy with h | h; (· exact hz2 y h); rw [List.mem_singleton.1 h]; exact ⟨Nat.zero_le _, fun t ht => by cases ht⟩⟩) (by dsimp only; rw [List.length_append, List.length_singleton]; repeat (first | exact Sub.nil | refine Sub.cons rfl ?_)) (fun w1 h => (h.less (List.sublist_cons_self _ _) (fun _ h => h)).to (by dsimp only; rw [inO_snoc]; rfl))
      · simp only [hb24, decide_eq_true_eq, decide_eq_false_iff_not, Bool.and_eq_true, Bool.or_eq_true, Bool.and_eq_false_iff, Bool.or_eq_false_iff, Bool.not_eq_true', Bool.not_eq_false', ne_eq, Decidable.not_not] at hc24
        have hce : ¬c = g.e := fun h => hc24 (u8_lit.2 h)
        refine w_skip ?_
        exact c_norm (xs, R, Ss) (⟨by unfold newEl; rw [if_neg hce], by rcases hne with h | h | h; (· exact absurd h hce); (· exact absurd h hcn); exact h, hS, by dsimp only; omega, hz2⟩) (by repeat (first | exact Sub.nil | refine Sub.cons rfl ?_)) (fun _ h => h)
    · rintro ⟨zs, R2, S2⟩ ⟨hzs, hzn, hS2, hy1, hy2⟩
      refine w_state ([(0, .pointer (some ⟨p, 0, none⟩)), (4, rowV R2 zs.length)]) (rowO 25 R2 ++ (inO 9 S2 ++ (l1 ++ (p, Obj.cells (msgC g s (x)).toArray 54) :: l2))) ((w, notOwn (l1 ++ (p, Obj.cells (msgC g s (a)).toArray 54) :: l2)) :: ro) ?_
      dsimp only at hzs hzn hS2 hy1 hy2
      obtain ⟨pt, pc, pk, hpv, hpt, hpf⟩ := pieceV_is (pieceP s g x [])
      refine w_seq ?_
      refine rg_text ?_
      refine x_val rfl rfl rfl (v_move rfl) ?_
      refine x_turnf (τ := Nat) (v := .tuple #[.string pt, .int .u8 (pc.toNat : Nat), .bool pk]) (fun z => ∀ t c' u, pieceP s g x [] = some (t, c', u) → z = u) (fun z => rowO 25 R2 ++ (inO 9 S2 ++ (l1 ++ (p, Obj.cells (msgC g s (z)).toArray 54) :: l2))) rfl rfl Tryd.func38 (by kernel_rfl) rfl (fun w1 hw1 => by
        have h1 : Mem w1 ((rowO 25 R2 ++ (inO 9 S2 ++ l1)) ++ (p, Obj.cells (msgC g s (x)).toArray 54) :: l2) ro := (hw1.less (List.Sublist.refl _) (fun _ h => .tail _ h)).to (by simp [List.append_assoc])
        have h1 := hw1.to (own' := (rowO 25 R2 ++ (inO 9 S2 ++ l1)) ++ (p, Obj.cells (msgC g s (x)).toArray 54) :: l2) (by simp [List.append_assoc])
        exact (c_piece g s x w1 h1 hs hx).mono fun e w2 ⟨h2, z, h3, h4⟩ => ⟨by rw [h2, hpv], z, h3, h4.to (by simp [List.append_assoc])⟩) ?_
      intro az haz
      refine x_val rfl rfl rfl (v_move rfl) ?_
      refine x_val rfl rfl rfl (v_extract rfl rfl) ?_
      refine x_val rfl rfl rfl (v_extract rfl rfl) ?_
      refine x_bool rfl rfl rfl (v_extract rfl rfl) ?_
      intro b33 hb33
      refine x_val rfl rfl rfl (v_assign rfl) ?_
      refine x_val rfl rfl rfl (v_assign rfl) ?_
      refine x_val rfl rfl rfl (v_assign rfl) ?_
      refine x_end ?_
      refine t_norm ?_
      refine w_seq ?_
      refine w_seq ?_
      refine rg_text ?_
      refine x_val rfl rfl rfl (v_move rfl) ?_
      refine x_bool rfl rfl rfl (v_not rfl) ?_
      intro b35 hb35
      refine x_end ?_
      refine t_norm ?_
      refine w_cond rfl (fun hc35 => ?_) (fun hc35 => ?_)
      · have hk : pk = false := by rw [hb35] at hc35; subst hb33; simpa using hc35
        have hnone : elP s g (byteAt s a) (a + 1) [] = none := by rw [← hE, hee, hpf hk]
        refine w_seq ?_
        refine rg_text ?_
        refine x_val rfl rfl rfl (v_assign rfl) ?_
        refine x_val rfl rfl rfl (v_assign rfl) ?_
        refine x_end ?_
        refine t_norm ?_
        refine w_ret ?_
        refine t_ret ?_
        refine b_ret ?_
        refine t_ret ?_
        refine b_ret ?_
        refine t_ret ?_
        refine ret2 rfl rfl rfl (fun w' hm' => ⟨_, rfl, az, ⟨_, by rw [hnone]; rfl, fun l z h => ?_⟩, ?_⟩)
        · rw [hnone] at h; cases h
        · exact hm'.less ((List.sublist_append_right _ _).trans (List.sublist_append_right _ _)) (fun _ h => .tail _ h)
      · have hk : pk = true := by rw [hb35] at hc35; subst hb33; simpa using hc35
        obtain ⟨pl, pz, hpp, rfl⟩ := hpt hk
        obtain rfl := haz _ _ _ hpp
        obtain ⟨hp1, hp2, hp3, hp4⟩ := piece_adv hpp
        have hptz : (⟨pl.toArray⟩ : ByteArray).size ≤ s.size := by show (List.toArray pl).size ≤ _; rw [List.size_toArray]; simp only [List.length_nil] at hp3; omega
        obtain ⟨ys, y, Ts, S, bb, cs, cp, rfl, rfl, rfl⟩ := hS2.last hzn
        rw [inO_snoc, List.append_assoc]
        obtain ⟨hla, hlt⟩ := hS2.lastAt
        have hyl := hy2 y (by simp)
        have hzl : ys.length + 1 ≤ x := by simpa using hy1
        have hcp : ys.length + 1 ≤ cp := by have := hS2.row.2.1; simpa using this
        refine w_skip ?_
        refine t_norm ?_
        refine w_seq ?_
        refine rg_text ?_
        refine x_val rfl rfl rfl (v_move rfl) ?_
        refine x_val rfl rfl rfl (v_move rfl) ?_
        refine x_val rfl rfl rfl (v_len_slice Tryd.underlying38 rfl) ?_
        refine x_val rfl rfl rfl (v_subi (c := (ys.length : Int)) rfl rfl (by simp only [List.length_append, List.length_singleton]; omega) (by omega)) ?_
        refine x_val rfl rfl rfl (v_move rfl) ?_
        refine x_val rfl rfl rfl (v_move rfl) ?_
        refine x_val rfl rfl rfl (v_len_slice Tryd.underlying38 rfl) ?_
        refine x_val rfl rfl rfl (v_subi (c := (ys.length : Int)) rfl rfl (by simp only [List.length_append, List.length_singleton]; omega) (by omega)) ?_
        refine x_val rfl rfl rfl (v_indexAddr Tryd.underlying38 sz25 rfl rfl (by simp only [List.length_append, List.length_singleton]; omega) rfl) ?_
        refine x_val rfl rfl rfl (v_load Tryd.underlying25 rfl rfl (at_ownL (vs := cs) (.head _) (show cs[0 + ys.length * 1]? = some (rowV S y.length) from by rw [Nat.mul_one, Nat.zero_add]; exact hla))) ?_
        refine x_val rfl rfl rfl (v_move rfl) ?_
        refine x_buildSliceL rfl rfl rfl Tryd.underlying25 sz9 zr9 rfl rfl rfl ?_
        intro p47
        refine x_append (e := 9) [(p47, _), (bb, .cells cs.toArray 25 (0, 0))] (l2 := inO 9 Ts ++ (l1 ++ (p, Obj.cells (msgC g s (az)).toArray 54) :: l2)) S (len := y.length) (xs := y.map Value.string) rfl rfl rfl rfl rfl hS2.lastOK Tryd.underlying25 ap9 rfl rfl (m := 1) (news := [Value.string ⟨pl.toArray⟩]) (fun i hi => at_ownL (vs := [Value.string ⟨pl.toArray⟩]) (.head _) (by rw [Nat.zero_add]; exact List.getElem?_eq_getElem hi)) rfl (by simp only [maxLen]; omega) (by omega) ?_
        intro S' hS'
        refine x_val rfl rfl rfl (v_indexAddr Tryd.underlying38 sz25 rfl rfl (by simp only [List.length_append, List.length_singleton]; omega) rfl) ?_
        refine x_store (cs := cs) (off := 0 + ys.length * 1) [(p47, _)] rfl rfl rfl rfl sz25 rfl (by rw [Nat.mul_one, Nat.zero_add]; omega) ?_
        rw [show 0 + ys.length * 1 = ys.length by omega, put_cell hlt]
        refine x_end ?_
        refine t_norm ?_
        refine rg_text ?_
        refine x_val rfl rfl rfl (v_move rfl) ?_
        refine x_val rfl rfl rfl (v_assign rfl) ?_
        refine x_end ?_
        refine b_norm ?_
        have hS3 : SSOK (some (bb, cs.set ys.length (rowV S' (y.length + 1)), cp)) (Ts ++ [S']) (ys ++ [y ++ [⟨pl.toArray⟩]]) := by have h := hS2.setlast (S' := S') (y' := y ++ [⟨pl.toArray⟩]) (by simpa using hS'); simpa using h
        refine l_norm (pc, az, ys ++ [y ++ [⟨pl.toArray⟩]], some (bb, cs.set ys.length (rowV S' (y.length + 1)), cp), Ts ++ [S']) ⟨hp2, by dsimp only; omega, by dsimp only; rw [← hE, hee, hpp, ← hzs]; show _ = elP s g pc az (addLast (ys ++ [y]) ⟨pl.toArray⟩); rw [addLast_snoc], hS3, .inr (.inr (by simp)), by dsimp only; rw [List.length_append, List.length_singleton]; omega, fun y' hy' => ?_⟩ (by simp only; omega) (by dsimp only; rw [show (ys ++ [y ++ [(⟨pl.toArray⟩ : ByteArray)]]).length = (ys ++ [y]).length by simp]; repeat (first | exact Sub.nil | refine Sub.cons rfl ?_)) (fun w1 h => (h.less (List.sublist_cons_self _ _) (fun _ h => h)).to (by dsimp only; rw [inO_snoc, List.append_assoc]; rfl))
        rcases List.mem_append.1 hy' with h | h
        · obtain ⟨q1, q2⟩ := hy2 y' (List.mem_append_left _ h); exact ⟨by dsimp only; omega, q2⟩
        · rw [List.mem_singleton.1 h]; refine ⟨by dsimp only; rw [List.length_append, List.length_singleton]; omega, fun t ht => ?_⟩
          rcases List.mem_append.1 ht with ht | ht
          · exact hyl.2 t ht
          · rw [List.mem_singleton.1 ht]; exact hptz
  · have hcn : c = g.n := by rw [hb17] at hc17; exact u8_lit.1 (of_decide_eq_true (by simpa using hc17))
    rw [if_pos hcn] at hee
    refine w_exit ?_
    refine t_exit ?_
    refine t_exit ?_
    refine b_hit ?_
    refine t_norm ?_
    refine w_seq ?_
    refine rg_text ?_
    refine x_val rfl rfl rfl (v_move rfl) ?_
    refine x_val rfl rfl rfl (v_assign rfl) ?_
    refine x_val rfl rfl rfl (v_assign rfl) ?_
    refine x_end ?_
    refine t_norm ?_
    refine w_ret ?_
    refine ret2 rfl rfl rfl (fun w' hm' => ?_)
    have eP : elP s g (byteAt s a) (a + 1) [] = some (xs, x) := by rw [← hE, hee]
    have hm2 := hm'.to (own' := (rowO 25 R ++ inO 9 Ss) ++ (l1 ++ (p, Obj.cells (msgC g s (x)).toArray 54) :: l2)) (by simp [List.append_assoc])
    have hnew := hm2.newB (own0 := l1 ++ (p, Obj.cells (msgC g s (a)).toArray 54) :: l2) (.head _) (fun k hk => by simpa using hk)
    refine ⟨_, rfl, x, ⟨_, by rw [eP]; rfl, fun l z h => ?_⟩, ?_⟩
    · rw [eP] at h; injection h with h; injection h with h1 h2; subst h1; subst h2
      exact ⟨rfl, hS.rd (eR := 25) (eS := 9) rfl (fun q hq t ht => by have := (hz2 q hq).2 t ht; unfold okS; omega) hm2 (fun q hq => List.mem_append_left _ (List.mem_append_left _ hq)) (fun q hq => List.mem_append_left _ (List.mem_append_right _ hq)) (fun q hq => hnew q (List.mem_append_left _ hq)) (fun q hq => hnew q (List.mem_append_right _ hq))⟩
    · exact hm2.less (List.sublist_append_right _ _) (fun _ h => .tail _ h)

end Go.Proofs.YtbamklefagghcaaDoor

namespace Go.Proofs.YtbamklefagghcaaDoor
open Go.RowKit Go.PK
set_option linter.unusedVariables false
set_option linter.unusedSimpArgs false
set_option maxRecDepth 100000 in
theorem c_hasPre (s p : ByteArray) (w : World) :
    Calls Tryd.prog 49 #[.string s, .string p] w fun e w' => e = .returned (.bool (pre s p)) ∧ Later w w' := by
  refine enter (vs := [.string s, .string p]) Tryd.func49 rfl Tryd.ntmps49 rfl ?_
  refine w_seq ?_
  refine rg_text ?_
  refine x_val rfl rfl rfl (v_assign rfl) ?_
  refine x_end ?_
  refine t_norm ?_
  refine w_seq ?_
  refine rg_text ?_
  refine x_val rfl rfl rfl (v_move rfl) ?_
  refine x_val rfl rfl rfl (v_len_str Tryd.underlying9 rfl) ?_
  refine x_val rfl rfl rfl (v_move rfl) ?_
  refine x_val rfl rfl rfl (v_len_str Tryd.underlying9 rfl) ?_
  refine x_bool rfl rfl rfl (v_geq rfl rfl) ?_
  intro b9 hb9
  refine x_val rfl rfl rfl (v_move rfl) ?_
  refine x_if [] rfl rfl rfl rfl rfl (fun hg => by obtain ⟨hg0, _⟩ := hg; subst hg0; (try simp only [List.cons_append, List.nil_append, gvl_nil, gvl_t, gvl_f]); exact v_move rfl) ?_
  refine x_if [] rfl rfl rfl rfl rfl (fun hg => by obtain ⟨hg0, _⟩ := hg; subst hg0; (try simp only [List.cons_append, List.nil_append, gvl_nil, gvl_t, gvl_f]); exact v_move rfl) ?_
  refine x_if [] rfl rfl rfl rfl rfl (fun hg => by obtain ⟨hg0, _⟩ := hg; subst hg0; (try simp only [List.cons_append, List.nil_append, gvl_nil, gvl_t, gvl_f]); exact v_len_str Tryd.underlying9 rfl) ?_
  refine x_if [] rfl rfl rfl rfl rfl (fun hg => by obtain ⟨hg0, _⟩ := hg; subst hg0; (try simp only [List.cons_append, List.nil_append, gvl_nil, gvl_t, gvl_f]); have h1 := of_decide_eq_true hb9.symm; exact v_cut_to Tryd.underlying9 rfl rfl (by first | omega | (dsimp only; omega))) ?_
  refine x_if [] rfl rfl rfl rfl rfl (fun hg => by obtain ⟨hg0, _⟩ := hg; subst hg0; (try simp only [List.cons_append, List.nil_append, gvl_nil, gvl_t, gvl_f]); exact v_move rfl) ?_
  refine x_ifb [] rfl rfl rfl rfl rfl (fun hg => by obtain ⟨hg0, _⟩ := hg; subst hg0; (try simp only [List.cons_append, List.nil_append, gvl_nil, gvl_t, gvl_f]); exact v_seql rfl rfl) ?_
  intro b16 hb16
  refine x_bool rfl rfl rfl (v_and rfl rfl) ?_
  intro b17 hb17
  refine x_val rfl rfl rfl (v_assign rfl) ?_
  refine x_end ?_
  refine t_norm ?_
  refine w_ret ?_
  refine ret1 rfl rfl (fun w' hm => ⟨?_, hm.base (by simp)⟩)
  simp [hb17, hb16, hb9, pre]
set_option maxRecDepth 100000 in
theorem c_hasPrefix (s p : ByteArray) (w : World) :
    Calls Tryd.prog 34 #[.string s, .string p] w fun e w' => e = .returned (.bool (pre s p)) ∧ Later w w' := by
  refine enter (vs := [.string s, .string p]) Tryd.func34 rfl Tryd.ntmps34 rfl ?_
  refine w_seq ?_
  refine rg_text ?_
  refine x_val rfl rfl rfl (v_assign rfl) ?_
  refine x_end ?_
  refine t_norm ?_
  refine w_seq ?_
  refine rg_text ?_
  refine x_val rfl rfl rfl (v_move rfl) ?_
  refine x_val rfl rfl rfl (v_move rfl) ?_
  refine x_callb rfl rfl rfl Tryd.func49 (by kernel_rfl) rfl (fun w hw => c_hasPre _ _ w) ?_
  intro b7 hb7
  refine x_val rfl rfl rfl (v_assign rfl) ?_
  refine x_end ?_
  refine t_norm ?_
  refine w_ret ?_
  refine ret1 rfl rfl (fun w' hm => ⟨?_, hm.base (by simp)⟩)
  rw [hb7]
def openV (A : Option Addr) (own : List (Nat × Obj)) (s : ByteArray) : Option (Sg × Nat) → Prop
  | none => A = none ∧ own = []
  | some (g, a) => ∃ p, A = some ⟨p, 0, none⟩ ∧ own = [(p, Obj.cells (msgC g s a).toArray 54)]
set_option maxRecDepth 100000 in
theorem c_open (s : ByteArray) (w : World) (hs : s.size ≤ 200000000) :
    Calls Tryd.prog 15 #[.string s] w fun e w' => ∃ A own, e = .returned (.tuple #[.pointer A, .int .i64 (openR s).2.1, .int .i64 (openR s).2.2]) ∧ openV A own s (openR s).1 ∧ Mem w' own [(w, fun _ => True)] := by
  refine enter (vs := [.string s]) Tryd.func15 rfl Tryd.ntmps15 rfl ?_
  refine w_seq ?_
  refine rg_text ?_
  refine x_val rfl rfl rfl (v_assign rfl) ?_
  refine x_val rfl rfl rfl (v_assign rfl) ?_
  refine x_val rfl rfl rfl (v_assign rfl) ?_
  refine x_end ?_
  refine t_norm ?_
  refine w_seq ?_
  refine rg_text ?_
  refine x_callv rfl rfl rfl Tryd.func22 (by kernel_rfl) rfl (fun w1 hw1 => c_usual w1) ?_
  refine x_val rfl rfl rfl (v_move rfl) ?_
  refine x_val rfl rfl rfl (v_buildL (places := [(0, 4), (4, 1), (5, 1)]) Tryd.underlying54 zr54 (by kernel_rfl) rfl rfl) ?_
  refine x_box rfl rfl rfl rfl ?_
  intro p9
  refine x_val rfl rfl rfl (v_assign rfl) ?_
  refine x_end ?_
  refine t_norm ?_
  refine w_seq ?_
  refine w_seq ?_
  refine rg_text ?_
  refine x_val rfl rfl rfl (v_move rfl) ?_
  refine x_callb rfl rfl rfl Tryd.func34 (by kernel_rfl) rfl (fun w1 hw1 => c_hasPrefix _ _ w1) ?_
  intro b11 hb11
  refine x_bool rfl rfl rfl (v_not rfl) ?_
  intro b12 hb12
  refine x_end ?_
  refine t_norm ?_
  refine w_cond rfl (fun hc12 => ?_) (fun hc12 => ?_)
  · have hu : ¬unaP s := by rw [hb12, hb11, pre_una] at hc12; simpa using hc12
    have eO : openR s = (some (usualG, 0), 0, 0) := by unfold openR; rw [if_neg hu]
    refine w_seq ?_
    refine rg_text ?_
    refine x_val rfl rfl rfl (v_move rfl) ?_
    refine x_val rfl rfl rfl (v_assign rfl) ?_
    refine x_val rfl rfl rfl (v_assign rfl) ?_
    refine x_val rfl rfl rfl (v_assign rfl) ?_
    refine x_end ?_
    refine t_norm ?_
    refine w_ret ?_
    refine t_ret ?_
    refine ret3 rfl rfl rfl rfl (fun w' hm' => ⟨some ⟨p9, 0, none⟩, [(p9, Obj.cells (msgC usualG s 0).toArray 54)], by rw [eO], by rw [eO]; exact ⟨p9, rfl, rfl⟩, hm'⟩)
  · have hu : unaP s := by rw [hb12, hb11, pre_una] at hc12; simpa using hc12
    refine w_skip ?_
    refine t_norm ?_
    refine w_seq ?_
    refine w_seq ?_
    refine rg_text ?_
    refine x_val rfl rfl rfl (v_move rfl) ?_
    refine x_val rfl rfl rfl (v_len_str Tryd.underlying9 rfl) ?_
    refine x_bool rfl rfl rfl (v_lss rfl rfl) ?_
    intro b16 hb16
    refine x_end ?_
    refine t_norm ?_
    refine w_cond rfl (fun hc16 => ?_) (fun hc16 => ?_)
    · simp only [hb16, decide_eq_true_eq, decide_eq_false_iff_not, Bool.and_eq_true, Bool.or_eq_true, Bool.and_eq_false_iff, Bool.or_eq_false_iff, Bool.not_eq_true', Bool.not_eq_false', ne_eq, Decidable.not_not] at hc16
      have h9 : s.size < 9 := by omega
      have eO : openR s = (none, ((s.size : Nat) : Int), 10) := by unfold openR; rw [if_pos hu, if_pos h9]
      refine w_seq ?_
      refine rg_text ?_
      refine x_val rfl rfl rfl (v_move rfl) ?_
      refine x_val rfl rfl rfl (v_len_str Tryd.underlying9 rfl) ?_
      refine x_val rfl rfl rfl (v_assign rfl) ?_
      refine x_val rfl rfl rfl (v_assign rfl) ?_
      refine x_val rfl rfl rfl (v_assign rfl) ?_
      refine x_end ?_
      refine t_norm ?_
      refine w_ret ?_
      refine t_ret ?_
      refine ret3 rfl rfl rfl rfl (fun w' hm' => ⟨none, [], by rw [eO], by rw [eO]; exact ⟨rfl, rfl⟩, hm'.less (List.nil_sublist _) (fun _ h => h)⟩)
    · simp only [hb16, decide_eq_true_eq, decide_eq_false_iff_not, Bool.and_eq_true, Bool.or_eq_true, Bool.and_eq_false_iff, Bool.or_eq_false_iff, Bool.not_eq_true', Bool.not_eq_false', ne_eq, Decidable.not_not] at hc16
      have h9 : ¬s.size < 9 := by omega
      refine w_skip ?_
      refine t_norm ?_
      refine w_seq ?_
      refine rg_inv ([]) 17 (.flt 0 (.flt 1 (.flt 2 (.flt 3 (.flt 4 (.flt 5 (.flt 6 (.flt 7 (.flt 8 (.flt 9 (.flt 10 (.flt 11 (.flt 12 (.gr 13 (.flt 14 (.flt 15 (.gr 16 .done .nil))) .nil)))))))))))))) (List.nil_sublist _) (by kernel_rfl) (by kernel_rfl) ?_
      refine j_val rfl rfl (v_move rfl) ?_
      refine j_val rfl rfl (v_move rfl) ?_
      refine j_val rfl rfl (v_move rfl) ?_
      refine j_val rfl rfl (v_index (j := 3) Tryd.underlying9 rfl rfl (by omega)) ?_
      refine j_val rfl rfl (v_move rfl) ?_
      refine j_val rfl rfl (v_index (j := 4) Tryd.underlying9 rfl rfl (by omega)) ?_
      refine j_val rfl rfl (v_move rfl) ?_
      refine j_val rfl rfl (v_index (j := 6) Tryd.underlying9 rfl rfl (by omega)) ?_
      refine j_val rfl rfl (v_move rfl) ?_
      refine j_val rfl rfl (v_index (j := 8) Tryd.underlying9 rfl rfl (by omega)) ?_
      refine j_val rfl rfl (v_buildL (places := [(0, 1), (1, 1), (2, 1), (3, 1)]) Tryd.underlying52 zr52 (by kernel_rfl) rfl rfl) ?_
      refine j_val rfl rfl (v_nilCheck rfl) ?_
      refine j_val rfl rfl (v_fieldAddr (off' := 0) Tryd.underlying54 rfl sz52 (by decide) rfl rfl) ?_
      refine j_gr ?_ j_nil
      refine x_store (cs := msgC usualG s 0) (off := 0) [] rfl rfl rfl rfl sz52 rfl (by show 4 ≤ 6; decide) ?_
      refine x_end ?_
      refine j_end (List.nil_sublist _) ?_
      refine j_val rfl rfl (v_nilCheck rfl) ?_
      refine j_val rfl rfl (v_fieldAddr (off' := 5) Tryd.underlying54 rfl sz3 (by decide) rfl rfl) ?_
      refine j_gr ?_ j_nil
      refine x_store (cs := msgC (ownG s) s 0) (off := 5) [] rfl rfl rfl rfl sz3 rfl (by show 6 ≤ 6; decide) ?_
      refine x_end ?_
      refine j_end (List.nil_sublist _) ?_
      refine j_done ?_
      refine x_end ?_
      refine t_norm ?_
      refine w_seq ?_
      refine w_seq ?_
      refine w_state _ [(p9, Obj.cells (msgC (ownG s) s (9)).toArray 54)] _ ?_
      refine rg_text ?_
      refine x_val rfl rfl rfl (v_move rfl) ?_
      refine x_val rfl rfl rfl (v_nilCheck rfl) ?_
      refine x_val rfl rfl rfl (v_fieldAddr (off' := 0) Tryd.underlying54 rfl sz52 (by decide) rfl rfl) ?_
      refine x_val rfl rfl rfl (v_loadN (vs := (ownG s).cells) Tryd.underlying52 rfl sz52 rfl (fun j hj => at_ownL (vs := msgC (ownG s) s 9) (.head _) (by match j, hj with | 0, _ => rfl | 1, _ => rfl | 2, _ => rfl | 3, _ => rfl))) ?_
      refine x_callb rfl rfl rfl Tryd.func35 (by kernel_rfl) rfl (fun w1 hw1 => c_right (ownG s) w1) ?_
      intro b38 hb38
      refine x_bool rfl rfl rfl (v_not rfl) ?_
      intro b39 hb39
      refine x_end ?_
      refine t_norm ?_
      refine w_cond rfl (fun hc39 => ?_) (fun hc39 => ?_)
      · have hr : ¬rightS (ownG s) := by rw [hb39, hb38] at hc39; simpa using hc39
        have eO : openR s = (none, 3, 11) := by unfold openR; rw [if_pos hu, if_neg h9, if_neg hr]
        refine w_seq ?_
        refine rg_text ?_
        refine x_val rfl rfl rfl (v_assign rfl) ?_
        refine x_val rfl rfl rfl (v_assign rfl) ?_
        refine x_val rfl rfl rfl (v_assign rfl) ?_
        refine x_end ?_
        refine t_norm ?_
        refine w_ret ?_
        refine t_ret ?_
        refine ret3 rfl rfl rfl rfl (fun w' hm' => ⟨none, [], by rw [eO], by rw [eO]; exact ⟨rfl, rfl⟩, hm'.less (List.nil_sublist _) (fun _ h => h)⟩)
      · have hr : rightS (ownG s) := by rw [hb39, hb38] at hc39; simpa using hc39
        have eO : openR s = (some (ownG s, 9), 0, 0) := by unfold openR; rw [if_pos hu, if_neg h9, if_pos hr]
        refine w_skip ?_
        refine t_norm ?_
        refine w_seq ?_
        refine rg_text ?_
        refine x_val rfl rfl rfl (v_move rfl) ?_
        refine x_val rfl rfl rfl (v_assign rfl) ?_
        refine x_val rfl rfl rfl (v_assign rfl) ?_
        refine x_val rfl rfl rfl (v_assign rfl) ?_
        refine x_end ?_
        refine t_norm ?_
        refine w_ret ?_
        refine ret3 rfl rfl rfl rfl (fun w' hm' => ⟨some ⟨p9, 0, none⟩, [(p9, Obj.cells (msgC (ownG s) s 9).toArray 54)], by rw [eO], by rw [eO]; exact ⟨p9, rfl, rfl⟩, hm'⟩)

end Go.Proofs.YtbamklefagghcaaDoor

namespace Go.Proofs.YtbamklefagghcaaDoor
open Go.RowKit Go.PK
set_option linter.unusedVariables false
set_option linter.unusedSimpArgs false
theorem ap40 : (Tryd.prog.info? 40).map (fun j => (j.zero, j.size, j.bytes)) = some (some (.agg #[.string ⟨#[]⟩, .slice none 0 0]), 2, 40) := by kernel_rfl
set_option maxRecDepth 100000 in
theorem c_Parse (s : ByteArray) (w : World) (hs : s.size ≤ 200000000) :
    Calls Tryd.prog 7 #[.string s] w fun e w' => ∃ v, e = .returned (.tuple #[v, .int .i64 (parR s).2.1, .int .i64 (parR s).2.2]) ∧ Later w w' ∧ sliceRd tySeg (fun b => w.heap.size ≤ b) w' v (parR s).1 := by
  refine enter (vs := [.string s]) Tryd.func7 rfl Tryd.ntmps7 rfl ?_
  refine w_seq ?_
  refine rg_text ?_
  refine x_val rfl rfl rfl (v_assign rfl) ?_
  refine x_val rfl rfl rfl (v_assign rfl) ?_
  refine x_val rfl rfl rfl (v_assign rfl) ?_
  refine x_end ?_
  refine t_norm ?_
  refine w_seq ?_
  refine rg_text ?_
  refine x_val rfl rfl rfl (v_move rfl) ?_
  refine x_own (τ := Option Addr × List (Nat × Obj)) (fun q => .tuple #[.pointer q.1, .int .i64 (openR s).2.1, .int .i64 (openR s).2.2]) (fun q => openV q.1 q.2 s (openR s).1) (fun q => q.2) rfl rfl rfl Tryd.func15 (by kernel_rfl) rfl (fun w1 hw1 => (c_open s w1 hs).mono fun e w2 ⟨A0, own0, h1, h2, h3⟩ => ⟨(A0, own0), h1, h3.base (by simp), h2, hw1.join h3⟩) ?_
  rintro ⟨A0, own0⟩ hop
  dsimp only at hop
  have eR := parR_open s
  refine x_val rfl rfl rfl (v_move rfl) ?_
  refine x_val rfl rfl rfl (v_extract rfl rfl) ?_
  refine x_val rfl rfl rfl (v_extract rfl rfl) ?_
  refine x_val rfl rfl rfl (v_extract rfl rfl) ?_
  refine x_val rfl rfl rfl (v_assign rfl) ?_
  refine x_val rfl rfl rfl (v_assign rfl) ?_
  refine x_val rfl rfl rfl (v_assign rfl) ?_
  refine x_end ?_
  refine t_norm ?_
  refine w_seq ?_
  refine w_seq ?_
  refine rg_text ?_
  refine x_val rfl rfl rfl (v_move rfl) ?_
  refine x_bool rfl rfl rfl (v_neq rfl rfl) ?_
  intro b21 hb21
  refine x_end ?_
  refine t_norm ?_
  refine w_cond rfl (fun hc21 => ?_) (fun hc21 => ?_)
  · simp only [hb21, decide_eq_true_eq, decide_eq_false_iff_not, Bool.and_eq_true, Bool.or_eq_true, Bool.and_eq_false_iff, Bool.or_eq_false_iff, Bool.not_eq_true', Bool.not_eq_false', ne_eq, Decidable.not_not] at hc21
    have hon : (openR s).1 = none := by
      cases ho : (openR s).1 with
      | none => rfl
      | some q => obtain ⟨g, a⟩ := q; exact absurd (by rw [(openR_le s ho).2]) hc21
    rw [hon] at eR
    refine w_seq ?_
    refine rg_text ?_
    refine x_val rfl rfl rfl (v_move rfl) ?_
    refine x_val rfl rfl rfl (v_move rfl) ?_
    refine x_val rfl rfl rfl (v_assign rfl) ?_
    refine x_val rfl rfl rfl (v_assign rfl) ?_
    refine x_val rfl rfl rfl (v_assign rfl) ?_
    refine x_end ?_
    refine t_norm ?_
    refine w_ret ?_
    refine t_ret ?_
    refine ret3 rfl rfl rfl rfl (fun w' hm => ⟨_, by rw [eR]; rfl, hm.base (by simp), by rw [eR]; exact sliceRd_nil⟩)
  · simp only [hb21, decide_eq_true_eq, decide_eq_false_iff_not, Bool.and_eq_true, Bool.or_eq_true, Bool.and_eq_false_iff, Bool.or_eq_false_iff, Bool.not_eq_true', Bool.not_eq_false', ne_eq, Decidable.not_not] at hc21
    obtain ⟨g, a, ho⟩ : ∃ g a, (openR s).1 = some (g, a) := by
      cases ho : (openR s).1 with
      | none => have := openR_none s ho; omega
      | some q => exact ⟨q.1, q.2, rfl⟩
    rw [ho] at hop eR
    obtain ⟨p, rfl, rfl⟩ := hop
    have ha := (openR_le s ho).1
    dsimp only at eR
    refine w_skip ?_
    refine t_norm ?_
    refine w_seq ?_
    refine rg_text ?_
    refine x_val rfl rfl rfl (v_assign rfl) ?_
    refine x_end ?_
    refine t_norm ?_
    refine w_seq ?_
    refine w_seq ?_
    refine rg_text ?_
    refine x_val rfl rfl rfl (v_move rfl) ?_
    refine x_turnf (τ := Unit) (v := .tuple #[]) (fun _ => True) (fun _ => (p, Obj.cells (msgC g s (skipP s a)).toArray 54) :: []) rfl rfl Tryd.func16 (by kernel_rfl) rfl (fun w1 hw1 => (c_skip (l1 := []) g s a w1 hw1 hs ha).mono fun e w2 h => ⟨h.1, (), trivial, h.2⟩) ?_
    intro _ _
    refine x_end ?_
    refine t_norm ?_
    refine w_block ?_
    refine w_fix (rowO 40 none ++ (p, Obj.cells (msgC g s (skipP s a)).toArray 54) :: []) (List.Sublist.refl _) (fun w0 hm0 => ?_)
    have hska := skip_skip (s := s) _ a rfl
    refine w_loop (σ := Nat × List Seg × RowS × World) (fun x => x.1 ≤ s.size ∧ skipP s x.1 = x.1 ∧ parP s g x.1 x.2.1 = parP s g a [] ∧ x.2.1.length ≤ 10000 ∧ x.2.1.length ≤ x.1 ∧ RowT tySeg (newD w (rowO 40 x.2.2.1 ++ (p, Obj.cells (msgC g s (x.1)).toArray 54) :: [])) x.2.2.2 x.2.2.1 x.2.1) (fun x => [(0, Value.string s), (5, .pointer (some ⟨p, 0, none⟩)), (8, rowV x.2.2.1 x.2.1.length)]) (fun x => rowO 40 x.2.2.1 ++ (p, Obj.cells (msgC g s (x.1)).toArray 54) :: []) (fun x => (x.2.2.2, notOwn (rowO 40 x.2.2.1 ++ (p, Obj.cells (msgC g s (x.1)).toArray 54) :: [])) :: [(w, fun _ => True)]) (fun x => s.size - x.1) ((skipP s a, [], none, w0)) (⟨(skip_rng ha).2, hska, by dsimp only; rw [par_eq s g _ _ (skip_rng ha).2, par_eq s g a _ ha, hska], Nat.zero_le _, Nat.zero_le _, RowT.nil⟩) (l_start (by repeat (first | exact Sub.nil | refine Sub.cons rfl ?_)) (fun _ h => h)) ?_
    rintro ⟨x, xs, R, ws⟩ ⟨hx, hsk, hP, hn, hnx, hT⟩
    refine w_state ([(0, Value.string s), (5, .pointer (some ⟨p, 0, none⟩)), (8, rowV R xs.length)]) (rowO 40 R ++ (p, Obj.cells (msgC g s (x)).toArray 54) :: []) ((ws, notOwn (rowO 40 R ++ (p, Obj.cells (msgC g s (x)).toArray 54) :: [])) :: [(w, fun _ => True)]) ?_
    dsimp only at hx hsk hP hn hnx hT
    have hpe := par_eq s g x xs hx
    rw [hsk, hP] at hpe
    refine w_seq ?_
    refine w_seq ?_
    refine rg_text ?_
    refine x_val rfl rfl rfl (v_move rfl) ?_
    refine x_val rfl rfl rfl (v_nilCheck rfl) ?_
    refine x_val rfl rfl rfl (v_fieldAddr Tryd.underlying54 rfl sz3 (by decide) rfl rfl) ?_
    refine x_val rfl rfl rfl (v_load Tryd.underlying3 rfl rfl (at_ownL (vs := msgC g s (x)) (List.mem_append_right _ (.head _)) rfl)) ?_
    refine x_val rfl rfl rfl (v_move rfl) ?_
    refine x_val rfl rfl rfl (v_len_str Tryd.underlying9 rfl) ?_
    refine x_bool rfl rfl rfl (v_lss rfl rfl) ?_
    intro b32 hb32
    refine x_end ?_
    refine t_norm ?_
    refine w_cond rfl (fun hc32 => ?_) (fun hc32 => ?_)
    · simp only [hb32, decide_eq_true_eq, decide_eq_false_iff_not, Bool.and_eq_true, Bool.or_eq_true, Bool.and_eq_false_iff, Bool.or_eq_false_iff, Bool.not_eq_true', Bool.not_eq_false', ne_eq, Decidable.not_not] at hc32
      have hlt : x < s.size := by omega
      rw [if_pos hlt] at hpe
      refine w_skip ?_
      refine t_norm ?_
      refine w_seq ?_
      refine w_block ?_
      refine w_seq ?_
      refine w_seq ?_
      refine rg_text ?_
      refine x_val rfl rfl rfl (v_move rfl) ?_
      refine x_val rfl rfl rfl (v_len_slice Tryd.underlying26 rfl) ?_
      refine x_bool rfl rfl rfl (v_eql rfl rfl) ?_
      intro b37 hb37
      refine x_end ?_
      refine t_norm ?_
      refine w_cond rfl (fun hc37 => ?_) (fun hc37 => ?_)
      · simp only [hb37, decide_eq_true_eq, decide_eq_false_iff_not, Bool.and_eq_true, Bool.or_eq_true, Bool.and_eq_false_iff, Bool.or_eq_false_iff, Bool.not_eq_true', Bool.not_eq_false', ne_eq, Decidable.not_not] at hc37
        have h1 : xs.length = 10000 := by omega
        rw [if_pos h1] at hpe
        refine w_seq ?_
        refine rg_draw 7 [(true, 0), (true, 1), (true, 2), (true, 3), (true, 4), (true, 5), (true, 6)] (by kernel_rfl) (by kernel_rfl) ?_
        refine x_val rfl rfl rfl (v_move rfl) ?_
        refine x_val rfl rfl rfl (v_nilCheck rfl) ?_
        refine x_val rfl rfl rfl (v_fieldAddr Tryd.underlying54 rfl sz3 (by decide) rfl rfl) ?_
        refine x_val rfl rfl rfl (v_load Tryd.underlying3 rfl rfl (at_ownL (vs := msgC g s (x)) (List.mem_append_right _ (.head _)) rfl)) ?_
        refine x_val rfl rfl rfl (v_assign rfl) ?_
        refine x_val rfl rfl rfl (v_assign rfl) ?_
        refine x_val rfl rfl rfl (v_assign rfl) ?_
        refine x_end ?_
        refine t_norm ?_
        refine w_ret ?_
        refine t_ret ?_
        refine b_ret ?_
        refine t_ret ?_
        refine t_ret ?_
        refine b_ret ?_
        refine t_ret ?_
        have eP : parR s = ([], ((x : Nat) : Int), 2) := by rw [eR]; exact hpe
        refine ret3 rfl rfl rfl rfl (fun w' hm => ⟨_, by rw [eP] <;> rfl, hm.base (by simp), by rw [eP]; exact sliceRd_nil⟩)
      · simp only [hb37, decide_eq_true_eq, decide_eq_false_iff_not, Bool.and_eq_true, Bool.or_eq_true, Bool.and_eq_false_iff, Bool.or_eq_false_iff, Bool.not_eq_true', Bool.not_eq_false', ne_eq, Decidable.not_not] at hc37
        have h1 : ¬xs.length = 10000 := by omega
        rw [if_neg h1] at hpe
        refine w_skip ?_
        refine t_norm ?_
        refine w_seq ?_
        refine rg_text ?_
        refine x_val rfl rfl rfl (v_move rfl) ?_
        refine x_turnf (τ := Unit) (v := .tuple #[.string (tagR s g x).1.1, .int .i64 (tagR s g x).1.2.1, .int .i64 (tagR s g x).1.2.2]) (fun _ => True) (fun _ => rowO 40 R ++ (p, Obj.cells (msgC g s ((tagR s g x).2)).toArray 54) :: []) rfl rfl Tryd.func17 (by kernel_rfl) rfl (fun w1 hw1 => (c_tag g s x w1 hw1 hs hx).mono fun e w2 h => ⟨h.1, (), trivial, h.2⟩) ?_
        intro _ _
        refine x_val rfl rfl rfl (v_move rfl) ?_
        refine x_val rfl rfl rfl (v_extract rfl rfl) ?_
        refine x_val rfl rfl rfl (v_extract rfl rfl) ?_
        refine x_val rfl rfl rfl (v_extract rfl rfl) ?_
        refine x_val rfl rfl rfl (v_assign rfl) ?_
        refine x_val rfl rfl rfl (v_assign rfl) ?_
        refine x_val rfl rfl rfl (v_assign rfl) ?_
        refine x_end ?_
        refine t_norm ?_
        refine w_seq ?_
        refine w_seq ?_
        refine rg_text ?_
        refine x_val rfl rfl rfl (v_move rfl) ?_
        refine x_bool rfl rfl rfl (v_neq rfl rfl) ?_
        intro b49 hb49
        refine x_end ?_
        refine t_norm ?_
        refine w_cond rfl (fun hc49 => ?_) (fun hc49 => ?_)
        · simp only [hb49, decide_eq_true_eq, decide_eq_false_iff_not, Bool.and_eq_true, Bool.or_eq_true, Bool.and_eq_false_iff, Bool.or_eq_false_iff, Bool.not_eq_true', Bool.not_eq_false', ne_eq, Decidable.not_not] at hc49
          rw [if_pos hc49] at hpe
          refine w_seq ?_
          refine rg_text ?_
          refine x_val rfl rfl rfl (v_move rfl) ?_
          refine x_val rfl rfl rfl (v_move rfl) ?_
          refine x_val rfl rfl rfl (v_assign rfl) ?_
          refine x_val rfl rfl rfl (v_assign rfl) ?_
          refine x_val rfl rfl rfl (v_assign rfl) ?_
          refine x_end ?_
          refine t_norm ?_
          refine w_ret ?_
          refine t_ret ?_
          refine b_ret ?_
          refine t_ret ?_
          refine t_ret ?_
          refine b_ret ?_
          refine t_ret ?_
          have eP : parR s = ([], (tagR s g x).1.2.1, (tagR s g x).1.2.2) := by rw [eR]; exact hpe
          refine ret3 rfl rfl rfl rfl (fun w' hm => ⟨_, by rw [eP] <;> rfl, hm.base (by simp), by rw [eP]; exact sliceRd_nil⟩)
        · simp only [hb49, decide_eq_true_eq, decide_eq_false_iff_not, Bool.and_eq_true, Bool.or_eq_true, Bool.and_eq_false_iff, Bool.or_eq_false_iff, Bool.not_eq_true', Bool.not_eq_false', ne_eq, Decidable.not_not] at hc49
          have hno : ¬(tagR s g x).1.2.2 ≠ 0 := by simpa using hc49
          rw [if_neg hno] at hpe
          obtain ⟨e1, e2, e3, e4⟩ := tagR_ok (s := s) (g := g) (a := x) (by simpa using hno)
          have e5 := tagAt_lt e2 e3
          rw [e1] at hpe ⊢
          dsimp only at hpe ⊢
          refine w_skip ?_
          refine t_norm ?_
          refine w_seq ?_
          refine rg_text ?_
          refine x_val rfl rfl rfl (v_move rfl) ?_
          refine x_turn_n (τ := Nat) (fun z v wa wb => w.heap.size ≤ wa.heap.size ∧ (∀ k, wa.heap.size ≤ k → notOwn (rowO 40 R ++ (p, Obj.cells (msgC g s (z)).toArray 54) :: []) k) ∧ ∃ u, v = .tuple #[u, .bool (elP s g (byteAt s (x + 3)) (x + 3 + 1) []).isSome] ∧ ∀ l z', elP s g (byteAt s (x + 3)) (x + 3 + 1) [] = some (l, z') → z = z' ∧ sliceRd (tySlice tyStr) (fun b => wa.heap.size ≤ b) wb u l) (fun z => rowO 40 R ++ (p, Obj.cells (msgC g s (z)).toArray 54) :: []) rfl rfl Tryd.func18 (by kernel_rfl) rfl (fun w1 hw1 => (c_elements g s (x + 3) w1 hw1 hs e5 e4).mono fun e w2 ⟨v, h1, z, h2, h3⟩ => ⟨v, h1, z, ⟨(hw1.base (by simp)).size, fun k hk => notOwn_new hw1 k hk, h2⟩, h3⟩) ?_
          rintro v54 z wa wb hwa ⟨hwl, hno2, u54, rfl, hel⟩ hwb
          have hE : ∃ q, elP s g (byteAt s (x + 3)) (x + 3 + 1) [] = q := ⟨_, rfl⟩
          obtain ⟨q, hE⟩ := hE
          rw [hE] at hpe hel ⊢
          refine x_val rfl rfl rfl (v_move rfl) ?_
          refine x_val rfl rfl rfl (v_extract rfl rfl) ?_
          refine x_bool rfl rfl rfl (v_extract rfl rfl) ?_
          intro b56 hb56
          refine x_val rfl rfl rfl (v_assign rfl) ?_
          refine x_val rfl rfl rfl (v_assign rfl) ?_
          refine x_end ?_
          refine t_norm ?_
          refine w_seq ?_
          refine w_seq ?_
          refine rg_text ?_
          refine x_val rfl rfl rfl (v_move rfl) ?_
          refine x_bool rfl rfl rfl (v_not rfl) ?_
          intro b58 hb58
          refine x_end ?_
          refine t_norm ?_
          refine w_cond rfl (fun hc58 => ?_) (fun hc58 => ?_)
          · simp only [hb58, hb56, decide_eq_true_eq, decide_eq_false_iff_not, Bool.and_eq_true, Bool.or_eq_true, Bool.and_eq_false_iff, Bool.or_eq_false_iff, Bool.not_eq_true', Bool.not_eq_false', ne_eq, Decidable.not_not] at hc58
            have hq : q = none := by cases q with | none => rfl | some y => simp at hc58
            subst hq
            refine w_seq ?_
            refine rg_text ?_
            refine x_val rfl rfl rfl (v_move rfl) ?_
            refine x_val rfl rfl rfl (v_len_str Tryd.underlying9 rfl) ?_
            refine x_val rfl rfl rfl (v_assign rfl) ?_
            refine x_val rfl rfl rfl (v_assign rfl) ?_
            refine x_val rfl rfl rfl (v_assign rfl) ?_
            refine x_end ?_
            refine t_norm ?_
            refine w_ret ?_
            refine t_ret ?_
            refine b_ret ?_
            refine t_ret ?_
            refine t_ret ?_
            refine b_ret ?_
            refine t_ret ?_
            have eP : parR s = ([], ((s.size : Nat) : Int), 10) := by rw [eR]; exact hpe
            refine ret3 rfl rfl rfl rfl (fun w' hm => ⟨_, by rw [eP] <;> rfl, hm.base (by simp), by rw [eP]; exact sliceRd_nil⟩)
          · simp only [hb58, hb56, decide_eq_true_eq, decide_eq_false_iff_not, Bool.and_eq_true, Bool.or_eq_true, Bool.and_eq_false_iff, Bool.or_eq_false_iff, Bool.not_eq_true', Bool.not_eq_false', ne_eq, Decidable.not_not] at hc58
            obtain ⟨l, z2, rfl⟩ : ∃ l z2, q = some (l, z2) := by cases q with | none => simp at hc58 | some y => exact ⟨y.1, y.2, rfl⟩
            obtain ⟨rfl, hl⟩ := hel l z2 rfl
            obtain ⟨Au, cu, rfl, hu1, hu2, _⟩ := id hl
            have hadv := el_adv (by omega) hE
            obtain ⟨css, hcl, hrow, hrd⟩ := hT
            refine w_skip ?_
            refine t_norm ?_
            refine rg_text ?_
            refine x_val rfl rfl rfl (v_move rfl) ?_
            refine x_val rfl rfl rfl (v_move rfl) ?_
            refine x_val rfl rfl rfl (v_move rfl) ?_
            refine x_val rfl rfl rfl (v_buildL (places := [(0, 1), (1, 1)]) Tryd.underlying40 zr40 (by kernel_rfl) rfl rfl) ?_
            refine x_buildSliceL (cs := [Value.string (tagAt s x), .slice Au l.length cu]) rfl rfl rfl Tryd.underlying26 sz40 zr40 rfl rfl rfl ?_
            intro p65
            refine x_append (e := 40) [(p65, Obj.cells [Value.string (tagAt s x), .slice Au l.length cu].toArray 40)] (l2 := [(p, Obj.cells (msgC g s (z)).toArray 54)]) R (len := xs.length) (xs := css.flatten) rfl rfl rfl rfl rfl hrow Tryd.underlying26 ap40 rfl rfl (m := 1) (news := [Value.string (tagAt s x), .slice Au l.length cu]) (fun i hi => at_ownL (vs := [Value.string (tagAt s x), .slice Au l.length cu]) (.head _) (by rw [Nat.zero_add]; exact List.getElem?_eq_getElem hi)) rfl (by simp only [maxLen]; omega) (by omega) ?_
            intro R' hR'
            refine x_val rfl rfl rfl (v_assign rfl) ?_
            refine x_end ?_
            refine b_norm ?_
            refine t_norm ?_
            refine rg_text ?_
            refine x_val rfl rfl rfl (v_move rfl) ?_
            refine x_turnf (τ := Unit) (v := .tuple #[]) (fun _ => True) (fun _ => [(p65, Obj.cells [Value.string (tagAt s x), .slice Au l.length cu].toArray 40)] ++ (rowO 40 R' ++ (p, Obj.cells (msgC g s (skipP s z)).toArray 54) :: [])) rfl rfl Tryd.func16 (by kernel_rfl) rfl (fun w1 hw1 => (c_skip (l1 := (p65, Obj.cells [Value.string (tagAt s x), .slice Au l.length cu].toArray 40) :: rowO 40 R') g s z w1 (hw1.to rfl) hs hadv.2).mono fun e w2 h => ⟨h.1, (), trivial, h.2⟩) ?_
            intro _ _
            refine x_end ?_
            refine s_fix (rowO 40 R' ++ (p, Obj.cells (msgC g s (skipP s z)).toArray 54) :: []) (List.sublist_cons_self _ _) (fun w0 hm0 => ?_)
            have hse := skip_skip (s := s) _ z rfl
            have hsr := skip_rng (s := s) hadv.2
            have hok : okS (tagAt s x) := by unfold okS; omega
            have hT' := snocN (T := tySeg) (D := newD w (rowO 40 R' ++ (p, Obj.cells (msgC g s (skipP s z)).toArray 54) :: [])) (ws := w0) (x := ⟨tagAt s x, l⟩) rfl hcl (fun j h1 h2 => tySeg.keep (hrd j h1 h2) (Kept.frz hm0 (List.sublist_cons_self _ _) (by simp))) hR' (tySeg_mk rfl hok (hl.keep (Kept.made2 (hm0.less (List.sublist_cons_self _ _) (fun _ h => h)) (.head _) hno2 hwl)))
            exact l_norm (x := (x, xs, R, ws)) (μ := fun q : Nat × List Seg × RowS × World => s.size - q.1) (skipP s z, xs ++ [⟨tagAt s x, l⟩], R', w0) ⟨hsr.2, hse, by dsimp only; rw [hpe, par_eq s g _ _ hsr.2]; dsimp only; rw [par_eq s g z _ hadv.2, hse], by simp; omega, by simp; omega, hT'⟩ (by simp only; omega) (by dsimp only; rw [List.length_append, List.length_singleton]; repeat (first | exact Sub.nil | refine Sub.cons rfl ?_)) (fun w1 h => h.less (List.Sublist.refl _) (fun q hq => by simp at hq ⊢; rcases hq with h | h; (· exact .inl h); simp [h]))
    · simp only [hb32, decide_eq_true_eq, decide_eq_false_iff_not, Bool.and_eq_true, Bool.or_eq_true, Bool.and_eq_false_iff, Bool.or_eq_false_iff, Bool.not_eq_true', Bool.not_eq_false', ne_eq, Decidable.not_not] at hc32
      have hlt : ¬x < s.size := by omega
      rw [if_neg hlt] at hpe
      refine w_exit ?_
      refine t_exit ?_
      refine t_exit ?_
      refine b_hit ?_
      refine t_norm ?_
      refine w_seq ?_
      refine rg_text ?_
      refine x_val rfl rfl rfl (v_move rfl) ?_
      refine x_val rfl rfl rfl (v_assign rfl) ?_
      refine x_val rfl rfl rfl (v_assign rfl) ?_
      refine x_val rfl rfl rfl (v_assign rfl) ?_
      refine x_end ?_
      refine t_norm ?_
      refine w_ret ?_
      refine ret3 rfl rfl rfl rfl (fun w' hm => ?_)
      have eP : parR s = (xs, 0, 0) := by rw [eR]; exact hpe
      refine ⟨_, by rw [eP] <;> rfl, hm.base (by simp), ?_⟩
      rw [eP]
      exact (hT.keep (Kept.frz hm (List.Sublist.refl _) (.head _))).rd (e := 40) hm (fun p hp => List.mem_append_left _ hp) (fun _ h => h.1) (fun p hp => hm.newer (by simp) (List.mem_append_left _ hp)) rfl

end Go.Proofs.YtbamklefagghcaaDoor

namespace Go.Proofs.YtbamklefagghcaaDoor
open Go.RowKit Go.PK
set_option linter.unusedVariables false
set_option linter.unusedSimpArgs false
set_option maxRecDepth 100000 in
theorem c_rright (g : Sg) (w : World) :
    Calls Tryd.prog 19 #[.agg g.cells.toArray] w fun e w' => e = .returned (.bool (decide (rightS g))) ∧ Later w w' := by
  refine enter (vs := [.agg g.cells.toArray]) Tryd.func19 rfl Tryd.ntmps19 rfl ?_
  refine w_seq ?_
  refine rg_text ?_
  refine x_box rfl rfl rfl rfl ?_
  intro p1
  refine x_val rfl rfl rfl (v_assign rfl) ?_
  refine x_end ?_
  refine t_norm ?_
  refine w_seq ?_
  refine w_seq ?_
  refine rg_text ?_
  refine x_val rfl rfl rfl (v_assign rfl) ?_
  refine x_end ?_
  refine t_norm ?_
  refine w_block ?_
  refine w_loop (σ := Nat) (fun x => x ≤ 4 ∧ rightL (gl g) x) (fun x => [(1, Value.pointer (some ⟨p1, 0, none⟩)), (3, Value.int .i64 (x : Nat))]) (fun x => [(p1, Obj.cells g.cells.toArray 37)]) (fun x => [(w, fun _ => True)]) (fun x => 4 - x) (0) (⟨Nat.zero_le _, trivial⟩) (l_start (by repeat (first | exact Sub.nil | refine Sub.cons rfl ?_)) (fun _ h => h)) ?_
  rintro k ⟨hk, hr⟩
  refine w_state ([(1, Value.pointer (some ⟨p1, 0, none⟩)), (3, Value.int .i64 (k : Nat))]) ([(p1, Obj.cells g.cells.toArray 37)]) ([(w, fun _ => True)]) ?_
  refine w_seq ?_
  refine w_seq ?_
  refine rg_text ?_
  refine x_val rfl rfl rfl (v_move rfl) ?_
  refine x_bool rfl rfl rfl (v_lss rfl rfl) ?_
  intro b7 hb7
  refine x_end ?_
  refine t_norm ?_
  refine w_cond rfl (fun hc7 => ?_) (fun hc7 => ?_)
  · simp only [hb7, decide_eq_true_eq, decide_eq_false_iff_not, Bool.and_eq_true, Bool.or_eq_true, Bool.and_eq_false_iff, Bool.or_eq_false_iff, Bool.not_eq_true', Bool.not_eq_false', ne_eq, Decidable.not_not] at hc7
    have hk4 : k < 4 := by omega
    have hkl : k ≤ (gl g).length := by show k ≤ 4; omega
    refine w_skip ?_
    refine t_norm ?_
    refine w_seq ?_
    refine w_block ?_
    refine w_seq ?_
    refine rg_text ?_
    refine x_val rfl rfl rfl (v_move rfl) ?_
    refine x_val rfl rfl rfl (v_indexArr Tryd.underlying37 sz5 rfl rfl (by first | omega | (dsimp only; omega)) rfl) ?_
    refine x_val rfl rfl rfl (v_load Tryd.underlying5 rfl rfl (at_ownL (vs := g.cells) (.head _) (by rw [Nat.zero_add, Nat.mul_one]; exact gcells_at g hk4))) ?_
    refine x_val rfl rfl rfl (v_assign rfl) ?_
    refine x_end ?_
    refine t_norm ?_
    refine w_seq ?_
    refine w_seq ?_
    refine rg_text ?_
    refine x_val rfl rfl rfl (v_move rfl) ?_
    refine x_bool rfl rfl rfl (v_leq rfl rfl) ?_
    intro b14 hb14
    refine x_val rfl rfl rfl (v_move rfl) ?_
    refine x_if [] rfl rfl rfl rfl rfl (fun hg => by obtain ⟨hg0, _⟩ := hg; subst hg0; (try simp only [List.cons_append, List.nil_append, gvl_nil, gvl_t, gvl_f]); exact v_move rfl) ?_
    refine x_ifb [] rfl rfl rfl rfl rfl (fun hg => by obtain ⟨hg0, _⟩ := hg; subst hg0; (try simp only [List.cons_append, List.nil_append, gvl_nil, gvl_t, gvl_f]); exact v_geq rfl rfl) ?_
    intro b17 hb17
    refine x_if [] rfl rfl rfl rfl rfl (fun hg => by obtain ⟨hg0, _⟩ := hg; subst hg0; (try simp only [List.cons_append, List.nil_append, gvl_nil, gvl_t, gvl_f]); exact v_move rfl) ?_
    refine x_if [(b14, false)] rfl rfl rfl rfl rfl (fun hg => by obtain ⟨hg0, hg1, _⟩ := hg; subst hg0; subst hg1; (try simp only [List.cons_append, List.nil_append, gvl_nil, gvl_t, gvl_f]); exact v_move rfl) ?_
    refine x_ifb [(b14, false)] rfl rfl rfl rfl rfl (fun hg => by obtain ⟨hg0, hg1, _⟩ := hg; subst hg0; subst hg1; (try simp only [List.cons_append, List.nil_append, gvl_nil, gvl_t, gvl_f]); exact v_leq rfl rfl) ?_
    intro b20 hb20
    refine x_ifb [] rfl rfl rfl rfl rfl (fun hg => by obtain ⟨hg0, _⟩ := hg; subst hg0; (try simp only [List.cons_append, List.nil_append, gvl_nil, gvl_t, gvl_f]); exact v_and rfl rfl) ?_
    intro b21 hb21
    refine x_bool rfl rfl rfl (v_or rfl rfl) ?_
    intro b22 hb22
    refine x_val rfl rfl rfl (v_move rfl) ?_
    refine x_if [] rfl rfl rfl rfl rfl (fun hg => by obtain ⟨hg0, _⟩ := hg; subst hg0; (try simp only [List.cons_append, List.nil_append, gvl_nil, gvl_t, gvl_f]); exact v_move rfl) ?_
    refine x_ifb [] rfl rfl rfl rfl rfl (fun hg => by obtain ⟨hg0, _⟩ := hg; subst hg0; (try simp only [List.cons_append, List.nil_append, gvl_nil, gvl_t, gvl_f]); exact v_geq rfl rfl) ?_
    intro b25 hb25
    refine x_if [] rfl rfl rfl rfl rfl (fun hg => by obtain ⟨hg0, _⟩ := hg; subst hg0; (try simp only [List.cons_append, List.nil_append, gvl_nil, gvl_t, gvl_f]); exact v_move rfl) ?_
    refine x_if [(b22, false)] rfl rfl rfl rfl rfl (fun hg => by obtain ⟨hg0, hg1, _⟩ := hg; subst hg0; subst hg1; (try simp only [List.cons_append, List.nil_append, gvl_nil, gvl_t, gvl_f]); exact v_move rfl) ?_
    refine x_ifb [(b22, false)] rfl rfl rfl rfl rfl (fun hg => by obtain ⟨hg0, hg1, _⟩ := hg; subst hg0; subst hg1; (try simp only [List.cons_append, List.nil_append, gvl_nil, gvl_t, gvl_f]); exact v_leq rfl rfl) ?_
    intro b28 hb28
    refine x_ifb [] rfl rfl rfl rfl rfl (fun hg => by obtain ⟨hg0, _⟩ := hg; subst hg0; (try simp only [List.cons_append, List.nil_append, gvl_nil, gvl_t, gvl_f]); exact v_and rfl rfl) ?_
    intro b29 hb29
    refine x_bool rfl rfl rfl (v_or rfl rfl) ?_
    intro b30 hb30
    refine x_val rfl rfl rfl (v_move rfl) ?_
    refine x_if [] rfl rfl rfl rfl rfl (fun hg => by obtain ⟨hg0, _⟩ := hg; subst hg0; (try simp only [List.cons_append, List.nil_append, gvl_nil, gvl_t, gvl_f]); exact v_move rfl) ?_
    refine x_ifb [] rfl rfl rfl rfl rfl (fun hg => by obtain ⟨hg0, _⟩ := hg; subst hg0; (try simp only [List.cons_append, List.nil_append, gvl_nil, gvl_t, gvl_f]); exact v_geq rfl rfl) ?_
    intro b33 hb33
    refine x_if [] rfl rfl rfl rfl rfl (fun hg => by obtain ⟨hg0, _⟩ := hg; subst hg0; (try simp only [List.cons_append, List.nil_append, gvl_nil, gvl_t, gvl_f]); exact v_move rfl) ?_
    refine x_if [(b30, false)] rfl rfl rfl rfl rfl (fun hg => by obtain ⟨hg0, hg1, _⟩ := hg; subst hg0; subst hg1; (try simp only [List.cons_append, List.nil_append, gvl_nil, gvl_t, gvl_f]); exact v_move rfl) ?_
    refine x_ifb [(b30, false)] rfl rfl rfl rfl rfl (fun hg => by obtain ⟨hg0, hg1, _⟩ := hg; subst hg0; subst hg1; (try simp only [List.cons_append, List.nil_append, gvl_nil, gvl_t, gvl_f]); exact v_leq rfl rfl) ?_
    intro b36 hb36
    refine x_ifb [] rfl rfl rfl rfl rfl (fun hg => by obtain ⟨hg0, _⟩ := hg; subst hg0; (try simp only [List.cons_append, List.nil_append, gvl_nil, gvl_t, gvl_f]); exact v_and rfl rfl) ?_
    intro b37 hb37
    refine x_bool rfl rfl rfl (v_or rfl rfl) ?_
    intro b38 hb38
    refine x_end ?_
    refine t_norm ?_
    refine w_cond rfl (fun hc38 => ?_) (fun hc38 => ?_)
    · simp only [hb38, hb37, hb36, hb33, hb30, hb29, hb28, hb25, hb22, hb21, hb20, hb17, hb14, decide_eq_true_eq, decide_eq_false_iff_not, Bool.and_eq_true, Bool.or_eq_true, Bool.and_eq_false_iff, Bool.or_eq_false_iff, Bool.not_eq_true', Bool.not_eq_false', ne_eq, Decidable.not_not] at hc38
      have hal : alnum ((gl g).getD k 0) := by unfold alnum; omega
      have hB : badAt (gl g) k := .inl hal
      refine w_seq ?_
      refine rg_text ?_
      refine x_val rfl rfl rfl (v_assign rfl) ?_
      refine x_end ?_
      refine t_norm ?_
      refine w_ret ?_
      refine t_ret ?_
      refine b_ret ?_
      refine t_ret ?_
      refine t_ret ?_
      refine b_ret ?_
      refine t_ret ?_
      refine ret1 rfl rfl (fun w' hm => ⟨?_, hm.base (by simp)⟩)
      rw [decide_eq_false (fun hs => rightL_le hk4 ((rightS_iff g).1 hs) hB)]
    · simp only [hb38, hb37, hb36, hb33, hb30, hb29, hb28, hb25, hb22, hb21, hb20, hb17, hb14, decide_eq_true_eq, decide_eq_false_iff_not, Bool.and_eq_true, Bool.or_eq_true, Bool.and_eq_false_iff, Bool.or_eq_false_iff, Bool.not_eq_true', Bool.not_eq_false', ne_eq, Decidable.not_not] at hc38
      have hal : ¬alnum ((gl g).getD k 0) := by unfold alnum; omega
      refine w_skip ?_
      refine t_norm ?_
      refine w_seq ?_
      refine rg_text ?_
      refine x_val rfl rfl rfl (v_assign rfl) ?_
      refine x_end ?_
      refine t_norm ?_
      refine w_block ?_
      refine w_loop (σ := Nat) (fun y => y ≤ k ∧ ∀ i, i < y → (gl g).getD i 0 ≠ ((gl g).getD k 0)) (fun y => [(1, Value.pointer (some ⟨p1, 0, none⟩)), (3, Value.int .i64 (k : Nat)), (4, Value.int .u8 (((gl g).getD k 0).toNat : Nat)), (5, Value.int .i64 (y : Nat))]) (fun y => [(p1, Obj.cells g.cells.toArray 37)]) (fun y => [(w, fun _ => True)]) (fun y => k - y) (0) (⟨Nat.zero_le _, by intros; omega⟩) (l_start (by repeat (first | exact Sub.nil | refine Sub.cons rfl ?_)) (fun _ h => h)) ?_
      rintro j ⟨hj, hno⟩
      refine w_state ([(1, Value.pointer (some ⟨p1, 0, none⟩)), (3, Value.int .i64 (k : Nat)), (4, Value.int .u8 (((gl g).getD k 0).toNat : Nat)), (5, Value.int .i64 (j : Nat))]) ([(p1, Obj.cells g.cells.toArray 37)]) ([(w, fun _ => True)]) ?_
      refine w_seq ?_
      refine w_seq ?_
      refine rg_text ?_
      refine x_val rfl rfl rfl (v_move rfl) ?_
      refine x_val rfl rfl rfl (v_move rfl) ?_
      refine x_bool rfl rfl rfl (v_lss rfl rfl) ?_
      intro b41 hb41
      refine x_end ?_
      refine t_norm ?_
      refine w_cond rfl (fun hc41 => ?_) (fun hc41 => ?_)
      · simp only [hb41, decide_eq_true_eq, decide_eq_false_iff_not, Bool.and_eq_true, Bool.or_eq_true, Bool.and_eq_false_iff, Bool.or_eq_false_iff, Bool.not_eq_true', Bool.not_eq_false', ne_eq, Decidable.not_not] at hc41
        have hjk : j < k := by omega
        refine w_skip ?_
        refine t_norm ?_
        refine w_seq ?_
        refine w_block ?_
        refine w_seq ?_
        refine rg_text ?_
        refine x_val rfl rfl rfl (v_move rfl) ?_
        refine x_val rfl rfl rfl (v_indexArr Tryd.underlying37 sz5 rfl rfl (by first | omega | (dsimp only; omega)) rfl) ?_
        refine x_val rfl rfl rfl (v_load Tryd.underlying5 rfl rfl (at_ownL (vs := g.cells) (.head _) (by rw [Nat.zero_add, Nat.mul_one]; exact gcells_at g (by omega)))) ?_
        refine x_val rfl rfl rfl (v_move rfl) ?_
        refine x_bool rfl rfl rfl (v_eql rfl rfl) ?_
        intro b48 hb48
        refine x_end ?_
        refine t_norm ?_
        refine w_cond rfl (fun hc48 => ?_) (fun hc48 => ?_)
        · simp only [hb48, decide_eq_true_eq, decide_eq_false_iff_not, Bool.and_eq_true, Bool.or_eq_true, Bool.and_eq_false_iff, Bool.or_eq_false_iff, Bool.not_eq_true', Bool.not_eq_false', ne_eq, Decidable.not_not] at hc48
          have hB : badAt (gl g) k := .inr ((hasU_take hkl).2 ⟨j, hjk, u8_lit.1 hc48⟩)
          refine w_seq ?_
          refine rg_text ?_
          refine x_val rfl rfl rfl (v_assign rfl) ?_
          refine x_end ?_
          refine t_norm ?_
          refine w_ret ?_
          refine b_ret ?_
          refine t_ret ?_
          refine t_ret ?_
          refine b_ret ?_
          refine b_ret ?_
          refine t_ret ?_
          refine t_ret ?_
          refine b_ret ?_
          refine t_ret ?_
          refine ret1 rfl rfl (fun w' hm => ⟨?_, hm.base (by simp)⟩)
          rw [decide_eq_false (fun hs => rightL_le hk4 ((rightS_iff g).1 hs) hB)]
        · simp only [hb48, decide_eq_true_eq, decide_eq_false_iff_not, Bool.and_eq_true, Bool.or_eq_true, Bool.and_eq_false_iff, Bool.or_eq_false_iff, Bool.not_eq_true', Bool.not_eq_false', ne_eq, Decidable.not_not] at hc48
          have hne : ((gl g).getD j 0) ≠ ((gl g).getD k 0) := fun h => hc48 (u8_lit.2 h)
          refine w_skip ?_
          refine b_norm ?_
          refine t_norm ?_
          refine rg_text ?_
          refine x_val rfl rfl rfl (v_move rfl) ?_
          refine x_val rfl rfl rfl (v_addi rfl rfl rfl (by first | omega | (dsimp only; omega))) ?_
          refine x_val rfl rfl rfl (v_assign rfl) ?_
          refine x_end ?_
          exact l_norm (j + 1) ⟨by omega, fun i hi => by rcases Nat.lt_succ_iff_lt_or_eq.1 hi with h | rfl; (· exact hno i h); exact hne⟩ (by omega) (by repeat (first | exact Sub.nil | refine Sub.cons rfl ?_)) (fun _ h => h)
      · simp only [hb41, decide_eq_true_eq, decide_eq_false_iff_not, Bool.and_eq_true, Bool.or_eq_true, Bool.and_eq_false_iff, Bool.or_eq_false_iff, Bool.not_eq_true', Bool.not_eq_false', ne_eq, Decidable.not_not] at hc41
        obtain rfl : j = k := by omega
        refine w_exit ?_
        refine t_exit ?_
        refine t_exit ?_
        refine b_hit ?_
        refine b_norm ?_
        refine t_norm ?_
        refine rg_text ?_
        refine x_val rfl rfl rfl (v_move rfl) ?_
        refine x_val rfl rfl rfl (v_addi rfl rfl rfl (by first | omega | (dsimp only; omega))) ?_
        refine x_val rfl rfl rfl (v_assign rfl) ?_
        refine x_end ?_
        exact l_norm (j + 1) ⟨by omega, hr, fun h => by rcases h with h | h; (· exact hal h); obtain ⟨i, hi, he⟩ := (hasU_take hkl).1 h; exact hno i hi he⟩ (by omega) (by repeat (first | exact Sub.nil | refine Sub.cons rfl ?_)) (fun _ h => h)
  · simp only [hb7, decide_eq_true_eq, decide_eq_false_iff_not, Bool.and_eq_true, Bool.or_eq_true, Bool.and_eq_false_iff, Bool.or_eq_false_iff, Bool.not_eq_true', Bool.not_eq_false', ne_eq, Decidable.not_not] at hc7
    obtain rfl : k = 4 := by omega
    refine w_exit ?_
    refine t_exit ?_
    refine t_exit ?_
    refine b_hit ?_
    refine t_norm ?_
    refine w_seq ?_
    refine rg_text ?_
    refine x_val rfl rfl rfl (v_assign rfl) ?_
    refine x_end ?_
    refine t_norm ?_
    refine w_ret ?_
    refine ret1 rfl rfl (fun w' hm => ⟨?_, hm.base (by simp)⟩)
    rw [decide_eq_true ((rightS_iff g).2 hr)]

end Go.Proofs.YtbamklefagghcaaDoor

namespace Go.Proofs.YtbamklefagghcaaDoor
open Go.RowKit Go.PK
set_option linter.unusedVariables false
set_option linter.unusedSimpArgs false
set_option maxRecDepth 100000 in
theorem c_relements (g : Sg) (s : ByteArray) (a : Nat) (w : World) (hs : s.size ≤ 200000000) (hrs : rightS g) (ha : a < s.size) (hen : byteAt s a = g.e ∨ byteAt s a = g.n) :
    Calls Tryd.prog 21 #[.string s, .int .i64 (a : Nat), .agg g.cells.toArray] w fun e w' => ∃ u n, e = .returned (.tuple #[u, .int .i64 n, .bool (elP s g (byteAt s a) (a + 1) []).isSome]) ∧ Later w w' ∧ ∀ l z, elP s g (byteAt s a) (a + 1) [] = some (l, z) → n = (z : Nat) ∧ sliceRd (tySlice tyStr) (fun b => w.heap.size ≤ b) w' u l := by
  refine enter (vs := [.string s, .int .i64 (a : Nat), .agg g.cells.toArray]) Tryd.func21 rfl Tryd.ntmps21 rfl ?_
  refine w_seq ?_
  refine rg_text ?_
  refine x_box rfl rfl rfl rfl ?_
  intro p5
  refine x_val rfl rfl rfl (v_assign rfl) ?_
  refine x_val rfl rfl rfl (v_assign rfl) ?_
  refine x_val rfl rfl rfl (v_assign rfl) ?_
  refine x_end ?_
  refine t_norm ?_
  refine w_seq ?_
  refine rg_text ?_
  refine x_val rfl rfl rfl (v_assign rfl) ?_
  refine x_end ?_
  refine t_norm ?_
  refine w_seq ?_
  refine rg_text ?_
  refine x_val rfl rfl rfl (v_assign rfl) ?_
  refine x_end ?_
  refine t_norm ?_
  refine w_seq ?_
  refine rg_text ?_
  refine x_val rfl rfl rfl (v_assign rfl) ?_
  refine x_end ?_
  refine t_norm ?_
  refine w_seq ?_
  refine w_block ?_
  refine w_loop (σ := Nat × List UInt8 × Bool × List (List ByteArray) × RowS × List RowS) (fun x => x.1 ≤ s.size ∧ ((x.2.2.1 = false ∧ x.1 = a ∧ x.2.1 = [] ∧ x.2.2.2.1 = []) ∨ (x.2.2.1 = true ∧ x.2.2.2.1 ≠ [] ∧ contP s g x.1 x.2.1 x.2.2.2.1 = elP s g (byteAt s a) (a + 1) [])) ∧ SSOK x.2.2.2.2.1 x.2.2.2.2.2 x.2.2.2.1 ∧ x.2.1.length ≤ x.1 ∧ x.2.2.2.1.length ≤ x.1 ∧ ∀ y ∈ x.2.2.2.1, y.length ≤ x.1 ∧ ∀ t ∈ y, t.size ≤ s.size) (fun x => [(0, Value.string s), (1, Value.int .i64 (x.1 : Nat)), (5, Value.pointer (some ⟨p5, 0, none⟩)), (9, rowV x.2.2.2.2.1 x.2.2.2.1.length), (10, Value.string ⟨x.2.1.toArray⟩), (11, Value.bool x.2.2.1)]) (fun x => rowO 25 x.2.2.2.2.1 ++ (inO 9 x.2.2.2.2.2 ++ [(p5, Obj.cells g.cells.toArray 37)])) (fun x => [(w, fun _ => True)]) (fun x => s.size - x.1) ((a, [], false, [], none, [])) (⟨Nat.le_of_lt ha, .inl ⟨rfl, rfl, rfl, rfl⟩, SSOK.nil, Nat.zero_le _, Nat.zero_le _, fun y hy => by cases hy⟩) (l_start (by repeat (first | exact Sub.nil | refine Sub.cons rfl ?_)) (fun _ h => h)) ?_
  rintro ⟨x, bs, o, xs, R, Ss⟩ ⟨hx, hst, hS, hbl, hz1, hz2⟩
  refine w_state ([(0, Value.string s), (1, Value.int .i64 (x : Nat)), (5, Value.pointer (some ⟨p5, 0, none⟩)), (9, rowV R xs.length), (10, Value.string ⟨bs.toArray⟩), (11, Value.bool o)]) (rowO 25 R ++ (inO 9 Ss ++ [(p5, Obj.cells g.cells.toArray 37)])) ([(w, fun _ => True)]) ?_
  dsimp only at hx hst hS hbl hz1 hz2
  have ho : True := trivial
  refine w_seq ?_
  refine w_seq ?_
  refine rg_text ?_
  refine x_val rfl rfl rfl (v_move rfl) ?_
  refine x_val rfl rfl rfl (v_move rfl) ?_
  refine x_val rfl rfl rfl (v_len_str Tryd.underlying9 rfl) ?_
  refine x_bool rfl rfl rfl (v_lss rfl rfl) ?_
  intro b16 hb16
  refine x_end ?_
  refine t_norm ?_
  refine w_cond rfl (fun hc16 => ?_) (fun hc16 => ?_)
  · simp only [hb16, decide_eq_true_eq, decide_eq_false_iff_not, Bool.and_eq_true, Bool.or_eq_true, Bool.and_eq_false_iff, Bool.or_eq_false_iff, Bool.not_eq_true', Bool.not_eq_false', ne_eq, Decidable.not_not] at hc16
    have hlt : x < s.size := by omega
    refine w_skip ?_
    refine t_norm ?_
    refine w_block ?_
    refine w_seq ?_
    refine rg_text ?_
    refine x_val rfl rfl rfl (v_move rfl) ?_
    refine x_val rfl rfl rfl (v_move rfl) ?_
    refine x_val rfl rfl rfl (v_index Tryd.underlying9 rfl rfl (hlt)) ?_
    refine x_val rfl rfl rfl (v_assign rfl) ?_
    refine x_end ?_
    refine t_norm ?_
    refine w_seq ?_
    refine rg_text ?_
    refine x_val rfl rfl rfl (v_move rfl) ?_
    refine x_val rfl rfl rfl (v_addi rfl rfl rfl (by first | omega | (dsimp only; omega))) ?_
    refine x_val rfl rfl rfl (v_assign rfl) ?_
    refine x_end ?_
    refine t_norm ?_
    refine w_seq ?_
    refine w_seq ?_
    refine rg_text ?_
    refine x_val rfl rfl rfl (v_move rfl) ?_
    refine x_val rfl rfl rfl (v_indexArr (j := 2) (off' := 2) Tryd.underlying37 sz5 rfl rfl (by first | omega | (dsimp only; omega)) rfl) ?_
    refine x_val rfl rfl rfl (v_load Tryd.underlying5 rfl rfl (at_ownL (vs := g.cells) (List.mem_append_right _ (List.mem_append_right _ (.head _))) rfl)) ?_
    refine x_bool rfl rfl rfl (v_eql rfl rfl) ?_
    intro b25 hb25
    refine x_val rfl rfl rfl (v_move rfl) ?_
    refine x_if [] rfl rfl rfl rfl rfl (fun hg => by obtain ⟨hg0, _⟩ := hg; subst hg0; (try simp only [List.cons_append, List.nil_append, gvl_nil, gvl_t, gvl_f]); exact v_move rfl) ?_
    refine x_bool rfl rfl rfl (v_and rfl rfl) ?_
    intro b28 hb28
    refine x_end ?_
    refine t_norm ?_
    refine w_cond rfl (fun hc28 => ?_) (fun hc28 => ?_)
    · simp only [hb28, ho, hb25, decide_eq_true_eq, decide_eq_false_iff_not, Bool.and_eq_true, Bool.or_eq_true, Bool.and_eq_false_iff, Bool.or_eq_false_iff, Bool.not_eq_true', Bool.not_eq_false', ne_eq, Decidable.not_not] at hc28
      obtain ⟨hrl, ho⟩ := hc28
      have hrl : byteAt s x = g.r := u8_lit.1 hrl
      subst ho
      have hop : xs ≠ [] ∧ contP s g x bs xs = elP s g (byteAt s a) (a + 1) [] := by rcases hst with ⟨h1, _⟩ | h; (· cases h1); exact h.2
      have hns : ¬(byteAt s x = g.c ∨ byteAt s x = g.e ∨ byteAt s x = g.n) := by rw [hrl]; obtain ⟨_, _, ⟨k1, k2⟩, _, _, k3⟩ := hrs; rintro (h | h | h); (· exact k1 h); (· exact k2 h); exact k3 h.symm
      refine w_seq ?_
      refine w_seq ?_
      refine rg_text ?_
      refine x_val rfl rfl rfl (v_move rfl) ?_
      refine x_val rfl rfl rfl (v_move rfl) ?_
      refine x_val rfl rfl rfl (v_len_str Tryd.underlying9 rfl) ?_
      refine x_bool rfl rfl rfl (v_eql rfl rfl) ?_
      intro b32 hb32
      refine x_end ?_
      refine t_norm ?_
      refine w_cond rfl (fun hc32 => ?_) (fun hc32 => ?_)
      · simp only [hb32, decide_eq_true_eq, decide_eq_false_iff_not, Bool.and_eq_true, Bool.or_eq_true, Bool.and_eq_false_iff, Bool.or_eq_false_iff, Bool.not_eq_true', Bool.not_eq_false', ne_eq, Decidable.not_not] at hc32
        have he : x + 1 = s.size := by omega
        have hnone : elP s g (byteAt s a) (a + 1) [] = none := by rw [← hop.2, cont_end hlt hns hrl he]
        refine w_seq ?_
        refine rg_text ?_
        refine x_val rfl rfl rfl (v_assign rfl) ?_
        refine x_val rfl rfl rfl (v_assign rfl) ?_
        refine x_val rfl rfl rfl (v_assign rfl) ?_
        refine x_end ?_
        refine t_norm ?_
        refine w_ret ?_
        refine t_ret ?_
        refine t_ret ?_
        refine b_ret ?_
        refine t_ret ?_
        refine b_ret ?_
        refine t_ret ?_
        refine ret3 rfl rfl rfl rfl (fun w' hm => ?_)
        refine ⟨_, 0, by rw [hnone]; rfl, hm.base (by simp), fun l z h => ?_⟩
        rw [hnone] at h; cases h
      · simp only [hb32, decide_eq_true_eq, decide_eq_false_iff_not, Bool.and_eq_true, Bool.or_eq_true, Bool.and_eq_false_iff, Bool.or_eq_false_iff, Bool.not_eq_true', Bool.not_eq_false', ne_eq, Decidable.not_not] at hc32
        have he : ¬x + 1 = s.size := by omega
        refine w_skip ?_
        refine t_norm ?_
        refine w_seq ?_
        refine rg_text ?_
        refine x_val rfl rfl rfl (v_move rfl) ?_
        refine x_val rfl rfl rfl (v_move rfl) ?_
        refine x_val rfl rfl rfl (v_move rfl) ?_
        refine x_val rfl rfl rfl (v_move rfl) ?_
        refine x_val rfl rfl rfl (v_addi rfl rfl rfl (by first | omega | (dsimp only; omega))) ?_
        refine x_val (v := .string (s.extract (x + 1) (x + 2))) rfl rfl rfl (v_cut (i := x + 1) (j := x + 2) Tryd.underlying9 rfl rfl rfl (by omega) (by omega)) ?_
        refine x_val (v := .string ⟨(bs ++ [byteAt s (x + 1)]).toArray⟩) rfl rfl rfl (by rw [← str_cut bs (by omega)]; exact v_sadd rfl rfl (by rw [ByteArray.size_extract, show (⟨bs.toArray⟩ : ByteArray).size = bs.length from List.size_toArray]; omega)) ?_
        refine x_val rfl rfl rfl (v_assign rfl) ?_
        refine x_end ?_
        refine t_norm ?_
        refine w_seq ?_
        refine rg_text ?_
        refine x_val rfl rfl rfl (v_move rfl) ?_
        refine x_val rfl rfl rfl (v_addi rfl rfl rfl (by first | omega | (dsimp only; omega))) ?_
        refine x_val rfl rfl rfl (v_assign rfl) ?_
        refine x_end ?_
        refine t_norm ?_
        refine w_exit ?_
        refine t_exit ?_
        refine b_hit ?_
        exact l_norm (x + 2, bs ++ [byteAt s (x + 1)], true, xs, R, Ss) ⟨by dsimp only; omega, .inr ⟨rfl, hop.1, by dsimp only; rw [← hop.2, cont_rel hlt hns hrl he]⟩, hS, by dsimp only; rw [List.length_append, List.length_singleton]; omega, by dsimp only; omega, fun y hy => ⟨by have := (hz2 y hy).1; dsimp only; omega, (hz2 y hy).2⟩⟩ (by simp only; omega) (by repeat (first | exact Sub.nil | refine Sub.cons rfl ?_)) (fun _ h => h)
    · simp only [hb28, ho, hb25, decide_eq_true_eq, decide_eq_false_iff_not, Bool.and_eq_true, Bool.or_eq_true, Bool.and_eq_false_iff, Bool.or_eq_false_iff, Bool.not_eq_true', Bool.not_eq_false', ne_eq, Decidable.not_not] at hc28
      have hnr : ¬(byteAt s x = g.r ∧ o = true) := fun ⟨h1, h2⟩ => by rw [h2] at hc28; rcases hc28 with h | h; (· exact h (u8_lit.2 h1)); cases h
      refine w_skip ?_
      refine t_norm ?_
      refine w_seq ?_
      refine w_seq ?_
      refine rg_text ?_
      refine x_val rfl rfl rfl (v_move rfl) ?_
      refine x_val rfl rfl rfl (v_indexArr (j := 0) (off' := 0) Tryd.underlying37 sz5 rfl rfl (by first | omega | (dsimp only; omega)) rfl) ?_
      refine x_val rfl rfl rfl (v_load Tryd.underlying5 rfl rfl (at_ownL (vs := g.cells) (List.mem_append_right _ (List.mem_append_right _ (.head _))) rfl)) ?_
      refine x_bool rfl rfl rfl (v_neq rfl rfl) ?_
      intro b45 hb45
      refine x_val rfl rfl rfl (v_move rfl) ?_
      refine x_if [] rfl rfl rfl rfl rfl (fun hg => by obtain ⟨hg0, _⟩ := hg; subst hg0; (try simp only [List.cons_append, List.nil_append, gvl_nil, gvl_t, gvl_f]); exact v_move rfl) ?_
      refine x_if [] rfl rfl rfl rfl rfl (fun hg => by obtain ⟨hg0, _⟩ := hg; subst hg0; (try simp only [List.cons_append, List.nil_append, gvl_nil, gvl_t, gvl_f]); exact v_indexArr (j := 1) (off' := 1) Tryd.underlying37 sz5 rfl rfl (by first | omega | (dsimp only; omega)) rfl) ?_
      refine x_if [] rfl rfl rfl rfl rfl (fun hg => by obtain ⟨hg0, _⟩ := hg; subst hg0; (try simp only [List.cons_append, List.nil_append, gvl_nil, gvl_t, gvl_f]); exact v_load Tryd.underlying5 rfl rfl (at_ownL (vs := g.cells) (List.mem_append_right _ (List.mem_append_right _ (.head _))) rfl)) ?_
      refine x_ifb [] rfl rfl rfl rfl rfl (fun hg => by obtain ⟨hg0, _⟩ := hg; subst hg0; (try simp only [List.cons_append, List.nil_append, gvl_nil, gvl_t, gvl_f]); exact v_neq rfl rfl) ?_
      intro b50 hb50
      refine x_bool rfl rfl rfl (v_and rfl rfl) ?_
      intro b51 hb51
      refine x_val rfl rfl rfl (v_move rfl) ?_
      refine x_if [] rfl rfl rfl rfl rfl (fun hg => by obtain ⟨hg0, _⟩ := hg; subst hg0; (try simp only [List.cons_append, List.nil_append, gvl_nil, gvl_t, gvl_f]); exact v_move rfl) ?_
      refine x_if [] rfl rfl rfl rfl rfl (fun hg => by obtain ⟨hg0, _⟩ := hg; subst hg0; (try simp only [List.cons_append, List.nil_append, gvl_nil, gvl_t, gvl_f]); exact v_indexArr (j := 3) (off' := 3) Tryd.underlying37 sz5 rfl rfl (by first | omega | (dsimp only; omega)) rfl) ?_
      refine x_if [] rfl rfl rfl rfl rfl (fun hg => by obtain ⟨hg0, _⟩ := hg; subst hg0; (try simp only [List.cons_append, List.nil_append, gvl_nil, gvl_t, gvl_f]); exact v_load Tryd.underlying5 rfl rfl (at_ownL (vs := g.cells) (List.mem_append_right _ (List.mem_append_right _ (.head _))) rfl)) ?_
      refine x_ifb [] rfl rfl rfl rfl rfl (fun hg => by obtain ⟨hg0, _⟩ := hg; subst hg0; (try simp only [List.cons_append, List.nil_append, gvl_nil, gvl_t, gvl_f]); exact v_neq rfl rfl) ?_
      intro b56 hb56
      refine x_bool rfl rfl rfl (v_and rfl rfl) ?_
      intro b57 hb57
      refine x_end ?_
      refine t_norm ?_
      refine w_cond rfl (fun hc57 => ?_) (fun hc57 => ?_)
      · simp only [hb57, hb56, hb51, hb50, hb45, decide_eq_true_eq, decide_eq_false_iff_not, Bool.and_eq_true, Bool.or_eq_true, Bool.and_eq_false_iff, Bool.or_eq_false_iff, Bool.not_eq_true', Bool.not_eq_false', ne_eq, Decidable.not_not] at hc57
        have hns : ¬(byteAt s x = g.c ∨ byteAt s x = g.e ∨ byteAt s x = g.n) := by rintro (h | h | h) <;> (rw [h] at hc57; simp at hc57)
        have hop : o = true ∧ xs ≠ [] ∧ contP s g x bs xs = elP s g (byteAt s a) (a + 1) [] := by rcases hst with ⟨h1, h2, _⟩ | h; (· exfalso; subst h2; rcases hen with h | h; (· exact hns (.inr (.inl h))); exact hns (.inr (.inr h))); exact h
        have hnr2 : ¬byteAt s x = g.r := fun h => hnr ⟨h, hop.1⟩
        refine w_seq ?_
        refine rg_text ?_
        refine x_val rfl rfl rfl (v_move rfl) ?_
        refine x_val rfl rfl rfl (v_move rfl) ?_
        refine x_buildSliceL (cs := [Value.int .u8 ((byteAt s x).toNat : Nat)]) rfl rfl rfl Tryd.underlying24 sz5 zr5 rfl rfl rfl ?_
        intro p60
        refine x_val rfl rfl rfl (v_toStr [(byteAt s x)] Tryd.underlying24 Tryd.underlying5 Tryd.underlying9 rfl rfl (fun j hj => at_ownL (vs := [Value.int .u8 ((byteAt s x).toNat : Nat)]) (.head _) (by match j, hj with | 0, _ => rfl))) ?_
        refine x_val (v := .string ⟨(bs ++ [(byteAt s x)]).toArray⟩) rfl rfl rfl (by rw [← str_push]; exact v_sadd rfl rfl (by show bs.toArray.size + 1 ≤ _; rw [List.size_toArray]; omega)) ?_
        refine x_val rfl rfl rfl (v_assign rfl) ?_
        refine x_end ?_
        refine t_norm ?_
        refine w_exit ?_
        refine t_exit ?_
        refine b_hit ?_
        obtain ⟨rfl, hop⟩ := hop
        exact l_norm (x + 1, bs ++ [byteAt s x], true, xs, R, Ss) ⟨by dsimp only; omega, .inr ⟨rfl, hop.1, by dsimp only; rw [← hop.2, cont_byte hlt hns hnr2]⟩, hS, by dsimp only; rw [List.length_append, List.length_singleton]; omega, by dsimp only; omega, fun y hy => ⟨by have := (hz2 y hy).1; dsimp only; omega, (hz2 y hy).2⟩⟩ (by simp only; omega) (by repeat (first | exact Sub.nil | refine Sub.cons rfl ?_)) (fun _ h => h.less (List.sublist_cons_self _ _) (fun _ h => h))
      · simp only [hb57, hb56, hb51, hb50, hb45, decide_eq_true_eq, decide_eq_false_iff_not, Bool.and_eq_true, Bool.or_eq_true, Bool.and_eq_false_iff, Bool.or_eq_false_iff, Bool.not_eq_true', Bool.not_eq_false', ne_eq, Decidable.not_not] at hc57
        have hsep : byteAt s x = g.c ∨ byteAt s x = g.e ∨ byteAt s x = g.n := by
          rcases hc57 with (h | h) | h
          · exact .inl (u8_lit.1 h)
          · exact .inr (.inl (u8_lit.1 h))
          · exact .inr (.inr (u8_lit.1 h))
        refine w_skip ?_
        refine t_norm ?_
        refine w_seq_cut (σ := List (List ByteArray) × RowS × List RowS) (fun q => elP s g (byteAt s x) (x + 1) q.1 = elP s g (byteAt s a) (a + 1) [] ∧ ((byteAt s x) = g.e ∨ (byteAt s x) = g.n ∨ q.1 ≠ []) ∧ SSOK q.2.1 q.2.2 q.1 ∧ q.1.length ≤ x ∧ ∀ y ∈ q.1, y.length ≤ (x + 1) ∧ ∀ t ∈ y, t.size ≤ s.size) (fun q => [(0, Value.string s), (1, Value.int .i64 ((x : Int) + 1)), (5, Value.pointer (some ⟨p5, 0, none⟩)), (9, rowV q.2.1 q.1.length), (12, Value.int .u8 ((byteAt s x).toNat : Nat))]) (fun q => rowO 25 q.2.1 ++ (inO 9 q.2.2 ++ [(p5, Obj.cells g.cells.toArray 37)])) (fun q => [(w, fun _ => True)]) ?_ ?_
        · refine w_seq ?_
          refine rg_text ?_
          refine x_val rfl rfl rfl (v_move rfl) ?_
          refine x_end ?_
          refine t_norm ?_
          refine w_cond rfl (fun hc63 => ?_) (fun hc63 => ?_)
          · subst hc63
            have hop : xs ≠ [] ∧ contP s g x bs xs = elP s g (byteAt s a) (a + 1) [] := by rcases hst with ⟨h1, _⟩ | h; (· cases h1); exact h.2
            have hpt : (⟨bs.toArray⟩ : ByteArray).size ≤ s.size := by show bs.toArray.size ≤ _; rw [List.size_toArray]; omega
            obtain ⟨ys, y, Ts, S, bb, cs, cp, rfl, rfl, rfl⟩ := hS.last hop.1
            rw [inO_snoc, List.append_assoc]
            obtain ⟨hla, hlt2⟩ := hS.lastAt
            have hyl := hz2 y (by simp)
            have hzl : ys.length + 1 ≤ x := by simpa using hz1
            have hcp : ys.length + 1 ≤ cp := by have := hS.row.2.1; simpa using this
            refine rg_text ?_
            refine x_val rfl rfl rfl (v_move rfl) ?_
            refine x_val rfl rfl rfl (v_move rfl) ?_
            refine x_val rfl rfl rfl (v_len_slice Tryd.underlying38 rfl) ?_
            refine x_val rfl rfl rfl (v_subi (c := (ys.length : Int)) rfl rfl (by simp only [List.length_append, List.length_singleton]; omega) (by omega)) ?_
            refine x_val rfl rfl rfl (v_move rfl) ?_
            refine x_val rfl rfl rfl (v_move rfl) ?_
            refine x_val rfl rfl rfl (v_len_slice Tryd.underlying38 rfl) ?_
            refine x_val rfl rfl rfl (v_subi (c := (ys.length : Int)) rfl rfl (by simp only [List.length_append, List.length_singleton]; omega) (by omega)) ?_
            refine x_val rfl rfl rfl (v_indexAddr Tryd.underlying38 sz25 rfl rfl (by simp only [List.length_append, List.length_singleton]; omega) rfl) ?_
            refine x_val rfl rfl rfl (v_load Tryd.underlying25 rfl rfl (at_ownL (vs := cs) (.head _) (show cs[0 + ys.length * 1]? = some (rowV S y.length) from by rw [Nat.mul_one, Nat.zero_add]; exact hla))) ?_
            refine x_val rfl rfl rfl (v_move rfl) ?_
            refine x_buildSliceL rfl rfl rfl Tryd.underlying25 sz9 zr9 rfl rfl rfl ?_
            intro p75
            refine x_append (e := 9) [(p75, _), (bb, .cells cs.toArray 25 (0, 0))] (l2 := inO 9 Ts ++ [(p5, Obj.cells g.cells.toArray 37)]) S (len := y.length) (xs := y.map Value.string) rfl rfl rfl rfl rfl hS.lastOK Tryd.underlying25 ap9 rfl rfl (m := 1) (news := [Value.string ⟨bs.toArray⟩]) (fun i hi => at_ownL (vs := [Value.string ⟨bs.toArray⟩]) (.head _) (by rw [Nat.zero_add]; exact List.getElem?_eq_getElem hi)) rfl (by simp only [maxLen]; omega) (by omega) ?_
            intro S' hS'
            refine x_val rfl rfl rfl (v_indexAddr Tryd.underlying38 sz25 rfl rfl (by simp only [List.length_append, List.length_singleton]; omega) rfl) ?_
            refine x_store (cs := cs) (off := 0 + ys.length * 1) [(p75, _)] rfl rfl rfl rfl sz25 rfl (by rw [Nat.mul_one, Nat.zero_add]; omega) ?_
            rw [show 0 + ys.length * 1 = ys.length by omega, put_cell hlt2]
            refine x_end ?_
            have hS3 : SSOK (some (bb, cs.set ys.length (rowV S' (y.length + 1)), cp)) (Ts ++ [S']) (ys ++ [y ++ [⟨bs.toArray⟩]]) := by have h := hS.setlast (S' := S') (y' := y ++ [⟨bs.toArray⟩]) (by simpa using hS'); simpa using h
            refine c_norm (ys ++ [y ++ [⟨bs.toArray⟩]], some (bb, cs.set ys.length (rowV S' (y.length + 1)), cp), Ts ++ [S']) ⟨by dsimp only; rw [← hop.2, cont_sep hlt hsep, addLast_snoc], .inr (.inr (by simp)), hS3, by dsimp only; rw [List.length_append, List.length_singleton]; omega, fun y' hy' => ?_⟩ (by dsimp only; rw [show (ys ++ [y ++ [(⟨bs.toArray⟩ : ByteArray)]]).length = (ys ++ [y]).length by simp]; repeat (first | exact Sub.nil | refine Sub.cons rfl ?_)) (fun w1 h => (h.less (List.sublist_cons_self _ _) (fun _ h => h)).to (by dsimp only; rw [inO_snoc, List.append_assoc]; rfl))
            rcases List.mem_append.1 hy' with h | h
            · obtain ⟨q1, q2⟩ := hz2 y' (List.mem_append_left _ h); exact ⟨by omega, q2⟩
            · rw [List.mem_singleton.1 h]; refine ⟨by rw [List.length_append, List.length_singleton]; omega, fun t ht => ?_⟩
              rcases List.mem_append.1 ht with ht | ht
              · exact hyl.2 t ht
              · rw [List.mem_singleton.1 ht]; exact hpt
          · subst hc63
            refine w_skip ?_
            obtain ⟨_, rfl, rfl, rfl⟩ : false = false ∧ x = a ∧ bs = [] ∧ xs = [] := by rcases hst with h | h; (· exact h); cases h.1
            exact c_norm ([], R, Ss) (⟨rfl, by rcases hen with h | h; (· exact .inl h); exact .inr (.inl h), hS, Nat.zero_le _, fun y hy => by cases hy⟩) (by repeat (first | exact Sub.nil | refine Sub.cons rfl ?_)) (fun _ h => h)
        · rintro ⟨zs, R2, S2⟩ ⟨hE, hne, hS2, hy1, hy2⟩
          refine w_state ([(0, Value.string s), (1, Value.int .i64 ((x : Int) + 1)), (5, Value.pointer (some ⟨p5, 0, none⟩)), (9, rowV R2 zs.length), (12, Value.int .u8 ((byteAt s x).toNat : Nat))]) (rowO 25 R2 ++ (inO 9 S2 ++ [(p5, Obj.cells g.cells.toArray 37)])) ([(w, fun _ => True)]) ?_
          dsimp only at hE hne hS2 hy1 hy2
          refine w_seq ?_
          refine rg_text ?_
          refine x_val rfl rfl rfl (v_assign rfl) ?_
          refine x_end ?_
          refine t_norm ?_
          refine w_seq ?_
          refine w_seq ?_
          refine rg_text ?_
          refine x_val rfl rfl rfl (v_move rfl) ?_
          refine x_val rfl rfl rfl (v_indexArr (j := 3) Tryd.underlying37 sz5 rfl rfl (by first | omega | (dsimp only; omega)) rfl) ?_
          refine x_val rfl rfl rfl (v_load Tryd.underlying5 rfl rfl (at_ownL (vs := g.cells) (List.mem_append_right _ (List.mem_append_right _ (.head _))) rfl)) ?_
          refine x_bool rfl rfl rfl (v_eql rfl rfl) ?_
          intro b81 hb81
          refine x_end ?_
          refine t_norm ?_
          refine w_cond rfl (fun hc81 => ?_) (fun hc81 => ?_)
          · simp only [hb81, decide_eq_true_eq, decide_eq_false_iff_not, Bool.and_eq_true, Bool.or_eq_true, Bool.and_eq_false_iff, Bool.or_eq_false_iff, Bool.not_eq_true', Bool.not_eq_false', ne_eq, Decidable.not_not] at hc81
            have hcn : byteAt s x = g.n := u8_lit.1 hc81
            have hfin : elP s g (byteAt s a) (a + 1) [] = some (zs, x + 1) := by rw [← hE, el_eq, if_pos hcn]
            refine w_seq ?_
            refine rg_text ?_
            refine x_val rfl rfl rfl (v_move rfl) ?_
            refine x_val rfl rfl rfl (v_move rfl) ?_
            refine x_val rfl rfl rfl (v_assign rfl) ?_
            refine x_val rfl rfl rfl (v_assign rfl) ?_
            refine x_val rfl rfl rfl (v_assign rfl) ?_
            refine x_end ?_
            refine t_norm ?_
            refine w_ret ?_
            refine t_ret ?_
            refine b_ret ?_
            refine t_ret ?_
            refine b_ret ?_
            refine t_ret ?_
            refine ret3 rfl rfl rfl rfl (fun w' hm => ?_)
            refine ⟨_, ((x : Int) + 1), by rw [hfin]; rfl, hm.base (by simp), fun l z h => ?_⟩
            rw [hfin] at h; injection h with h; injection h with h1 h2; subst h1; subst h2
            exact ⟨by omega, hS2.rd (eR := 25) (eS := 9) rfl (fun q hq t ht => by have := (hy2 q hq).2 t ht; unfold okS; omega) hm (fun q hq => List.mem_append_left _ hq) (fun q hq => List.mem_append_right _ (List.mem_append_left _ hq)) (fun q hq => hm.newer (by simp) (List.mem_append_left _ hq)) (fun q hq => hm.newer (by simp) (List.mem_append_right _ (List.mem_append_left _ hq)))⟩
          · simp only [hb81, decide_eq_true_eq, decide_eq_false_iff_not, Bool.and_eq_true, Bool.or_eq_true, Bool.and_eq_false_iff, Bool.or_eq_false_iff, Bool.not_eq_true', Bool.not_eq_false', ne_eq, Decidable.not_not] at hc81
            have hcn : ¬byteAt s x = g.n := fun h => hc81 (u8_lit.2 h)
            rw [el_cont hcn] at hE
            refine w_skip ?_
            refine t_norm ?_
            refine w_seq ?_
            refine w_seq ?_
            refine rg_text ?_
            refine x_val rfl rfl rfl (v_move rfl) ?_
            refine x_val rfl rfl rfl (v_indexArr (j := 1) Tryd.underlying37 sz5 rfl rfl (by first | omega | (dsimp only; omega)) rfl) ?_
            refine x_val rfl rfl rfl (v_load Tryd.underlying5 rfl rfl (at_ownL (vs := g.cells) (List.mem_append_right _ (List.mem_append_right _ (.head _))) rfl)) ?_
            refine x_bool rfl rfl rfl (v_eql rfl rfl) ?_
            intro b87 hb87
            refine x_end ?_
            refine t_norm ?_
            refine w_cond rfl (fun hc87 => ?_) (fun hc87 => ?_)
            · simp only [hb87, decide_eq_true_eq, decide_eq_false_iff_not, Bool.and_eq_true, Bool.or_eq_true, Bool.and_eq_false_iff, Bool.or_eq_false_iff, Bool.not_eq_true', Bool.not_eq_false', ne_eq, Decidable.not_not] at hc87
              have hce : byteAt s x = g.e := u8_lit.1 hc87
              refine rg_text ?_
              refine x_val rfl rfl rfl (v_move rfl) ?_
              refine x_buildSliceL rfl rfl rfl Tryd.underlying38 sz25 zr25 rfl rfl rfl ?_
              intro p89
              refine x_append (e := 25) [(p89, _)] (l2 := inO 9 S2 ++ [(p5, Obj.cells g.cells.toArray 37)]) R2 (len := zs.length) (xs := ssC zs S2) rfl rfl rfl rfl rfl hS2.row Tryd.underlying38 ap25 rfl rfl (m := 1) (news := [Value.slice none 0 0]) (fun i hi => at_ownL (vs := [Value.slice none 0 0]) (.head _) (by rw [Nat.zero_add]; exact List.getElem?_eq_getElem hi)) rfl (by simp only [maxLen]; omega) (by omega) ?_
              intro R' hR'
              refine x_val rfl rfl rfl (v_assign rfl) ?_
              refine x_end ?_
              refine t_norm ?_
              refine rg_text ?_
              refine x_val rfl rfl rfl (v_assign rfl) ?_
              refine x_end ?_
              refine b_norm ?_
              exact l_norm (x + 1, [], true, zs ++ [[]], R', S2 ++ [none]) ⟨by dsimp only; omega, .inr ⟨rfl, by simp, by dsimp only; rw [← hE]; unfold newEl; rw [if_pos hce]⟩, hS2.snoc hR' rowOK_nil, Nat.zero_le _, by dsimp only; rw [List.length_append, List.length_singleton]; omega, fun y hy => by rcases List.mem_append.1 hy with h | h; (· exact hy2 y h); rw [List.mem_singleton.1 h]; exact ⟨Nat.zero_le _, fun t ht => by cases ht⟩⟩ (by simp only; omega) (by dsimp only; rw [List.length_append, List.length_singleton]; repeat (first | exact Sub.nil | refine Sub.cons rfl ?_)) (fun w1 h => (h.less (List.sublist_cons_self _ _) (fun _ h => h)).to (by dsimp only; rw [inO_snoc]; rfl))
            · simp only [hb87, decide_eq_true_eq, decide_eq_false_iff_not, Bool.and_eq_true, Bool.or_eq_true, Bool.and_eq_false_iff, Bool.or_eq_false_iff, Bool.not_eq_true', Bool.not_eq_false', ne_eq, Decidable.not_not] at hc87
              have hce : ¬byteAt s x = g.e := fun h => hc87 (u8_lit.2 h)
              refine w_skip ?_
              refine t_norm ?_
              refine rg_text ?_
              refine x_val rfl rfl rfl (v_assign rfl) ?_
              refine x_end ?_
              refine b_norm ?_
              exact l_norm (x + 1, [], true, zs, R2, S2) ⟨by dsimp only; omega, .inr ⟨rfl, by rcases hne with h | h | h; (· exact absurd h hce); (· exact absurd h hcn); exact h, by dsimp only; rw [← hE]; unfold newEl; rw [if_neg hce]⟩, hS2, Nat.zero_le _, by dsimp only; omega, hy2⟩ (by simp only; omega) (by repeat (first | exact Sub.nil | refine Sub.cons rfl ?_)) (fun _ h => h)
  · simp only [hb16, decide_eq_false_iff_not] at hc16
    have hlt : ¬x < s.size := by omega
    have hop : o = true ∧ xs ≠ [] ∧ contP s g x bs xs = elP s g (byteAt s a) (a + 1) [] := by rcases hst with ⟨h1, h2, _⟩ | h; (· exfalso; omega); exact h
    have hnone : elP s g (byteAt s a) (a + 1) [] = none := by rw [← hop.2.2, cont_none hlt]
    refine w_exit ?_
    refine t_exit ?_
    refine t_exit ?_
    refine b_hit ?_
    refine t_norm ?_
    refine w_seq ?_
    refine rg_text ?_
    refine x_val rfl rfl rfl (v_assign rfl) ?_
    refine x_val rfl rfl rfl (v_assign rfl) ?_
    refine x_val rfl rfl rfl (v_assign rfl) ?_
    refine x_end ?_
    refine t_norm ?_
    refine w_ret ?_
    refine ret3 rfl rfl rfl rfl (fun w' hm => ?_)
    refine ⟨_, 0, by rw [hnone]; rfl, hm.base (by simp), fun l z h => ?_⟩
    rw [hnone] at h; cases h

end Go.Proofs.YtbamklefagghcaaDoor

namespace Go.Proofs.YtbamklefagghcaaDoor
open Go.RowKit Go.PK
set_option linter.unusedVariables false
set_option linter.unusedSimpArgs false
set_option maxRecDepth 100000 in
theorem c_rParse (s : ByteArray) (w : World) (hs : s.size ≤ 200000000) :
    Calls Tryd.prog 8 #[.string s] w fun e w' => ∃ v, e = .returned (.tuple #[v, .int .i64 (parR s).2.1, .int .i64 (parR s).2.2]) ∧ Later w w' ∧ sliceRd tySeg (fun b => w.heap.size ≤ b) w' v (parR s).1 := by
  refine enter (vs := [.string s]) Tryd.func8 rfl Tryd.ntmps8 rfl ?_
  refine w_seq ?_
  refine rg_text ?_
  refine x_val rfl rfl rfl (v_assign rfl) ?_
  refine x_val rfl rfl rfl (v_assign rfl) ?_
  refine x_val rfl rfl rfl (v_assign rfl) ?_
  refine x_end ?_
  refine t_norm ?_
  refine w_seq ?_
  refine rg_text ?_
  refine x_val rfl rfl rfl (v_buildArr Tryd.underlying37 zr37 sz5 rfl rfl) ?_
  refine x_alloc rfl rfl rfl zr37 ?_
  intro p5
  refine x_store0 [] rfl rfl rfl rfl sz37 rfl rfl ?_
  refine x_end ?_
  refine t_norm ?_
  refine w_seq ?_
  refine rg_text ?_
  refine x_val rfl rfl rfl (v_assign rfl) ?_
  refine x_end ?_
  refine t_norm ?_
  refine w_seq_cut (σ := Sg × Nat) (fun q => (openR s).1 = some (q.1, q.2)) (fun q => [(0, Value.string s), (5, Value.pointer (some ⟨p5, 0, none⟩)), (6, Value.int .i64 (q.2 : Nat))]) (fun q => [(p5, Obj.cells q.1.cells.toArray 37)]) (fun q => [(w, fun _ => True)]) ?_ ?_
  · refine w_seq ?_
    refine rg_text ?_
    refine x_val rfl rfl rfl (v_move rfl) ?_
    refine x_val rfl rfl rfl (v_len_str Tryd.underlying9 rfl) ?_
    refine x_bool rfl rfl rfl (v_geq rfl rfl) ?_
    intro b18 hb18
    refine x_val rfl rfl rfl (v_move rfl) ?_
    refine x_if [] rfl rfl rfl rfl rfl (fun hg => by obtain ⟨hg0, _⟩ := hg; subst hg0; (try simp only [List.cons_append, List.nil_append, gvl_nil, gvl_t, gvl_f]); exact v_move rfl) ?_
    refine x_if [] rfl rfl rfl rfl rfl (fun hg => by obtain ⟨hg0, _⟩ := hg; subst hg0; (try simp only [List.cons_append, List.nil_append, gvl_nil, gvl_t, gvl_f]); have h3 := of_decide_eq_true hb18.symm; exact v_cut_to (j := 3) Tryd.underlying9 rfl rfl (by omega)) ?_
    refine x_ifb [] rfl rfl rfl rfl rfl (fun hg => by obtain ⟨hg0, _⟩ := hg; subst hg0; (try simp only [List.cons_append, List.nil_append, gvl_nil, gvl_t, gvl_f]); exact v_seql rfl rfl) ?_
    intro b22 hb22
    refine x_bool rfl rfl rfl (v_and rfl rfl) ?_
    intro b23 hb23
    refine x_end ?_
    refine t_norm ?_
    refine w_cond rfl (fun hc23 => ?_) (fun hc23 => ?_)
    · simp only [hb23, hb22, hb18, decide_eq_true_eq, decide_eq_false_iff_not, Bool.and_eq_true, Bool.or_eq_true, Bool.and_eq_false_iff, Bool.or_eq_false_iff, Bool.not_eq_true', Bool.not_eq_false', ne_eq, Decidable.not_not] at hc23
      have hu : unaP s := ⟨by omega, hc23.2⟩
      refine w_seq ?_
      refine w_seq ?_
      refine rg_text ?_
      refine x_val rfl rfl rfl (v_move rfl) ?_
      refine x_val rfl rfl rfl (v_len_str Tryd.underlying9 rfl) ?_
      refine x_bool rfl rfl rfl (v_lss rfl rfl) ?_
      intro b26 hb26
      refine x_end ?_
      refine t_norm ?_
      refine w_cond rfl (fun hc26 => ?_) (fun hc26 => ?_)
      · simp only [hb26, decide_eq_true_eq, decide_eq_false_iff_not, Bool.and_eq_true, Bool.or_eq_true, Bool.and_eq_false_iff, Bool.or_eq_false_iff, Bool.not_eq_true', Bool.not_eq_false', ne_eq, Decidable.not_not] at hc26
        have h9 : s.size < 9 := by omega
        have eO : openR s = (none, ((s.size : Nat) : Int), 10) := by unfold openR; rw [if_pos hu, if_pos h9]
        have eP : parR s = ([], ((s.size : Nat) : Int), 10) := by rw [parR_open, eO]
        refine w_seq ?_
        refine rg_text ?_
        refine x_val rfl rfl rfl (v_move rfl) ?_
        refine x_val rfl rfl rfl (v_len_str Tryd.underlying9 rfl) ?_
        refine x_val rfl rfl rfl (v_assign rfl) ?_
        refine x_val rfl rfl rfl (v_assign rfl) ?_
        refine x_val rfl rfl rfl (v_assign rfl) ?_
        refine x_end ?_
        refine t_norm ?_
        refine w_ret ?_
        refine t_ret ?_
        refine t_ret ?_
        refine ret3 rfl rfl rfl rfl (fun w' hm => ⟨_, by rw [eP] <;> rfl, hm.base (by simp), by rw [eP]; exact sliceRd_nil⟩)
      · simp only [hb26, decide_eq_true_eq, decide_eq_false_iff_not, Bool.and_eq_true, Bool.or_eq_true, Bool.and_eq_false_iff, Bool.or_eq_false_iff, Bool.not_eq_true', Bool.not_eq_false', ne_eq, Decidable.not_not] at hc26
        have h9 : ¬s.size < 9 := by omega
        refine w_skip ?_
        refine t_norm ?_
        refine w_seq ?_
        refine rg_draw 9 [(true, 0), (true, 1), (true, 2), (true, 3), (true, 4), (true, 5), (true, 6), (true, 7), (true, 8)] (by kernel_rfl) (by kernel_rfl) ?_
        refine x_val rfl rfl rfl (v_move rfl) ?_
        refine x_val rfl rfl rfl (v_index (j := 3) Tryd.underlying9 rfl rfl (by omega)) ?_
        refine x_val rfl rfl rfl (v_move rfl) ?_
        refine x_val rfl rfl rfl (v_index (j := 4) Tryd.underlying9 rfl rfl (by omega)) ?_
        refine x_val rfl rfl rfl (v_move rfl) ?_
        refine x_val rfl rfl rfl (v_index (j := 6) Tryd.underlying9 rfl rfl (by omega)) ?_
        refine x_val rfl rfl rfl (v_move rfl) ?_
        refine x_val rfl rfl rfl (v_index (j := 8) Tryd.underlying9 rfl rfl (by omega)) ?_
        refine x_val rfl rfl rfl (v_buildArr Tryd.underlying37 zr37 sz5 rfl rfl) ?_
        refine x_store0 [] rfl rfl rfl rfl sz37 rfl rfl ?_
        refine x_end ?_
        refine t_norm ?_
        refine w_seq ?_
        refine w_state _ [(p5, Obj.cells (ownG s).cells.toArray 37)] _ ?_
        refine rg_text ?_
        refine x_val rfl rfl rfl (v_assign rfl) ?_
        refine x_end ?_
        refine t_norm ?_
        refine w_seq ?_
        refine rg_text ?_
        refine x_val rfl rfl rfl (v_load_blk (e := 37) (fz := (0, 0)) (cs := (ownG s).cells.toArray) Tryd.underlying37 rfl rfl (.head _) sz37) ?_
        refine x_callb rfl rfl rfl Tryd.func19 (by kernel_rfl) rfl (fun w1 hw1 => c_rright (ownG s) w1) ?_
        intro b39 hb39
        refine x_val rfl rfl rfl (v_assign rfl) ?_
        refine x_end ?_
        refine t_norm ?_
        refine w_seq ?_
        refine rg_text ?_
        refine x_val rfl rfl rfl (v_move rfl) ?_
        refine x_bool rfl rfl rfl (v_not rfl) ?_
        intro b41 hb41
        refine x_end ?_
        refine t_norm ?_
        refine w_cond rfl (fun hc41 => ?_) (fun hc41 => ?_)
        · have hr : ¬rightS (ownG s) := by rw [hb41, hb39] at hc41; simpa using hc41
          have eO : openR s = (none, 3, 11) := by unfold openR; rw [if_pos hu, if_neg h9, if_neg hr]
          have eP : parR s = ([], 3, 11) := by rw [parR_open, eO]
          refine w_seq ?_
          refine rg_text ?_
          refine x_val rfl rfl rfl (v_assign rfl) ?_
          refine x_val rfl rfl rfl (v_assign rfl) ?_
          refine x_val rfl rfl rfl (v_assign rfl) ?_
          refine x_end ?_
          refine t_norm ?_
          refine w_ret ?_
          refine t_ret ?_
          refine ret3 rfl rfl rfl rfl (fun w' hm => ⟨_, by rw [eP] <;> rfl, hm.base (by simp), by rw [eP]; exact sliceRd_nil⟩)
        · have hr : rightS (ownG s) := by rw [hb41, hb39] at hc41; simpa using hc41
          have eO : openR s = (some (ownG s, 9), 0, 0) := by unfold openR; rw [if_pos hu, if_neg h9, if_pos hr]
          refine w_skip ?_
          exact c_norm (ownG s, 9) (by rw [eO]) (by repeat (first | exact Sub.nil | refine Sub.cons rfl ?_)) (fun _ h => h)
    · simp only [hb23, hb22, hb18, decide_eq_true_eq, decide_eq_false_iff_not, Bool.and_eq_true, Bool.or_eq_true, Bool.and_eq_false_iff, Bool.or_eq_false_iff, Bool.not_eq_true', Bool.not_eq_false', ne_eq, Decidable.not_not] at hc23
      have hu : ¬unaP s := fun ⟨h1, h2⟩ => by rcases hc23 with h | h; (· omega); exact h h2
      have eO : openR s = (some (usualG, 0), 0, 0) := by unfold openR; rw [if_neg hu]
      refine w_skip ?_
      exact c_norm (usualG, 0) (by rw [eO]) (by repeat (first | exact Sub.nil | refine Sub.cons rfl ?_)) (fun _ h => h)
  · rintro ⟨g, a⟩ ho
    refine w_state ([(0, Value.string s), (5, Value.pointer (some ⟨p5, 0, none⟩)), (6, Value.int .i64 (a : Nat))]) ([(p5, Obj.cells g.cells.toArray 37)]) ([(w, fun _ => True)]) ?_
    have eR := parR_open s
    rw [ho] at eR
    dsimp only at eR
    have ha := (openR_le s ho).1
    have hrs := open_right s ho
    refine w_seq ?_
    refine rg_text ?_
    refine x_val rfl rfl rfl (v_assign rfl) ?_
    refine x_end ?_
    refine t_norm ?_
    refine w_block ?_
    refine w_fix (rowO 40 none ++ [(p5, Obj.cells g.cells.toArray 37)]) (List.Sublist.refl _) (fun w0 hm0 => ?_)
    refine w_loop (σ := Nat × List Seg × RowS × World) (fun x => x.1 ≤ s.size ∧ parP s g x.1 x.2.1 = parP s g a [] ∧ x.2.1.length ≤ 10000 ∧ x.2.1.length ≤ x.1 ∧ RowT tySeg (newD w (rowO 40 x.2.2.1 ++ [(p5, Obj.cells g.cells.toArray 37)])) x.2.2.2 x.2.2.1 x.2.1) (fun x => [(0, Value.string s), (5, Value.pointer (some ⟨p5, 0, none⟩)), (6, Value.int .i64 (x.1 : Nat)), (8, rowV x.2.2.1 x.2.1.length)]) (fun x => rowO 40 x.2.2.1 ++ [(p5, Obj.cells g.cells.toArray 37)]) (fun x => (x.2.2.2, notOwn (rowO 40 x.2.2.1 ++ [(p5, Obj.cells g.cells.toArray 37)])) :: [(w, fun _ => True)]) (fun x => s.size - x.1) ((a, [], none, w0)) (⟨ha, rfl, Nat.zero_le _, Nat.zero_le _, RowT.nil⟩) (l_start (by repeat (first | exact Sub.nil | refine Sub.cons rfl ?_)) (fun _ h => h)) ?_
    rintro ⟨x, xs, R, ws⟩ ⟨hx, hP, hn, hnx, hT⟩
    refine w_state ([(0, Value.string s), (5, Value.pointer (some ⟨p5, 0, none⟩)), (6, Value.int .i64 (x : Nat)), (8, rowV R xs.length)]) (rowO 40 R ++ [(p5, Obj.cells g.cells.toArray 37)]) ((ws, notOwn (rowO 40 R ++ [(p5, Obj.cells g.cells.toArray 37)])) :: [(w, fun _ => True)]) ?_
    dsimp only at hx hP hn hnx hT
    have hpe := par_eq s g x xs hx
    rw [hP] at hpe
    have hrg := skip_rng hx
    obtain ⟨B, hB⟩ : ∃ B, skipP s x = B := ⟨_, rfl⟩
    rw [hB] at hpe hrg
    refine w_block ?_
    refine w_seq ?_
    refine w_block ?_
    refine w_loop (σ := Nat) (fun y => y ≤ s.size ∧ skipP s y = B) (fun y => [(0, Value.string s), (5, Value.pointer (some ⟨p5, 0, none⟩)), (6, Value.int .i64 (y : Nat)), (8, rowV R xs.length)]) (fun y => rowO 40 R ++ [(p5, Obj.cells g.cells.toArray 37)]) (fun y => (ws, notOwn (rowO 40 R ++ [(p5, Obj.cells g.cells.toArray 37)])) :: [(w, fun _ => True)]) (fun y => s.size - y) (x) (⟨hx, hB⟩) (l_start (by repeat (first | exact Sub.nil | refine Sub.cons rfl ?_)) (fun _ h => h)) ?_
    rintro k ⟨hk, hkB⟩
    refine w_state ([(0, Value.string s), (5, Value.pointer (some ⟨p5, 0, none⟩)), (6, Value.int .i64 (k : Nat)), (8, rowV R xs.length)]) (rowO 40 R ++ [(p5, Obj.cells g.cells.toArray 37)]) ((ws, notOwn (rowO 40 R ++ [(p5, Obj.cells g.cells.toArray 37)])) :: [(w, fun _ => True)]) ?_
    refine w_seq ?_
    refine w_seq ?_
    refine rg_text ?_
    refine x_val rfl rfl rfl (v_move rfl) ?_
    refine x_val rfl rfl rfl (v_move rfl) ?_
    refine x_val rfl rfl rfl (v_len_str Tryd.underlying9 rfl) ?_
    refine x_bool rfl rfl rfl (v_lss rfl rfl) ?_
    intro b45 hb45
    refine x_val rfl rfl rfl (v_move rfl) ?_
    refine x_if [] rfl rfl rfl rfl rfl (fun hg => by obtain ⟨hg0, _⟩ := hg; subst hg0; (try simp only [List.cons_append, List.nil_append, gvl_nil, gvl_t, gvl_f]); exact v_move rfl) ?_
    refine x_if [] rfl rfl rfl rfl rfl (fun hg => by obtain ⟨hg0, _⟩ := hg; subst hg0; (try simp only [List.cons_append, List.nil_append, gvl_nil, gvl_t, gvl_f]); exact v_move rfl) ?_
    refine x_if [] rfl rfl rfl rfl rfl (fun hg => by obtain ⟨hg0, _⟩ := hg; subst hg0; (try simp only [List.cons_append, List.nil_append, gvl_nil, gvl_t, gvl_f]); exact v_index Tryd.underlying9 rfl rfl (by have := of_decide_eq_true hb45.symm; omega)) ?_
    refine x_ifb [] rfl rfl rfl rfl rfl (fun hg => by obtain ⟨hg0, _⟩ := hg; subst hg0; (try simp only [List.cons_append, List.nil_append, gvl_nil, gvl_t, gvl_f]); exact v_eql rfl rfl) ?_
    intro b50 hb50
    refine x_if [] rfl rfl rfl rfl rfl (fun hg => by obtain ⟨hg0, _⟩ := hg; subst hg0; (try simp only [List.cons_append, List.nil_append, gvl_nil, gvl_t, gvl_f]); exact v_move rfl) ?_
    refine x_if [(b45, true)] rfl rfl rfl rfl rfl (fun hg => by obtain ⟨hg0, hg1, _⟩ := hg; subst hg0; subst hg1; (try simp only [List.cons_append, List.nil_append, gvl_nil, gvl_t, gvl_f]); exact v_move rfl) ?_
    refine x_if [(b45, true)] rfl rfl rfl rfl rfl (fun hg => by obtain ⟨hg0, hg1, _⟩ := hg; subst hg0; subst hg1; (try simp only [List.cons_append, List.nil_append, gvl_nil, gvl_t, gvl_f]); exact v_move rfl) ?_
    refine x_if [(b45, true)] rfl rfl rfl rfl rfl (fun hg => by obtain ⟨hg0, hg1, _⟩ := hg; subst hg0; subst hg1; (try simp only [List.cons_append, List.nil_append, gvl_nil, gvl_t, gvl_f]); exact v_index Tryd.underlying9 rfl rfl (by have := of_decide_eq_true hb45.symm; omega)) ?_
    refine x_ifb [(b45, true)] rfl rfl rfl rfl rfl (fun hg => by obtain ⟨hg0, hg1, _⟩ := hg; subst hg0; subst hg1; (try simp only [List.cons_append, List.nil_append, gvl_nil, gvl_t, gvl_f]); exact v_eql rfl rfl) ?_
    intro b55 hb55
    refine x_ifb [] rfl rfl rfl rfl rfl (fun hg => by obtain ⟨hg0, _⟩ := hg; subst hg0; (try simp only [List.cons_append, List.nil_append, gvl_nil, gvl_t, gvl_f]); exact v_or rfl rfl) ?_
    intro b56 hb56
    refine x_if [] rfl rfl rfl rfl rfl (fun hg => by obtain ⟨hg0, _⟩ := hg; subst hg0; (try simp only [List.cons_append, List.nil_append, gvl_nil, gvl_t, gvl_f]); exact v_move rfl) ?_
    refine x_if [(b45, true)] rfl rfl rfl rfl rfl (fun hg => by obtain ⟨hg0, hg1, _⟩ := hg; subst hg0; subst hg1; (try simp only [List.cons_append, List.nil_append, gvl_nil, gvl_t, gvl_f]); exact v_move rfl) ?_
    refine x_if [(b45, true)] rfl rfl rfl rfl rfl (fun hg => by obtain ⟨hg0, hg1, _⟩ := hg; subst hg0; subst hg1; (try simp only [List.cons_append, List.nil_append, gvl_nil, gvl_t, gvl_f]); exact v_move rfl) ?_
    refine x_if [(b45, true)] rfl rfl rfl rfl rfl (fun hg => by obtain ⟨hg0, hg1, _⟩ := hg; subst hg0; subst hg1; (try simp only [List.cons_append, List.nil_append, gvl_nil, gvl_t, gvl_f]); exact v_index Tryd.underlying9 rfl rfl (by have := of_decide_eq_true hb45.symm; omega)) ?_
    refine x_ifb [(b45, true)] rfl rfl rfl rfl rfl (fun hg => by obtain ⟨hg0, hg1, _⟩ := hg; subst hg0; subst hg1; (try simp only [List.cons_append, List.nil_append, gvl_nil, gvl_t, gvl_f]); exact v_eql rfl rfl) ?_
    intro b61 hb61
    refine x_ifb [] rfl rfl rfl rfl rfl (fun hg => by obtain ⟨hg0, _⟩ := hg; subst hg0; (try simp only [List.cons_append, List.nil_append, gvl_nil, gvl_t, gvl_f]); exact v_or rfl rfl) ?_
    intro b62 hb62
    refine x_bool rfl rfl rfl (v_and rfl rfl) ?_
    intro b63 hb63
    refine x_end ?_
    refine t_norm ?_
    refine w_cond rfl (fun hc63 => ?_) (fun hc63 => ?_)
    · have hgo : k < s.size ∧ blankB (byteAt s k) = true := by
        rw [hb63, hb62, hb61, hb56, hb55, hb50, hb45] at hc63
        simp only [Bool.and_eq_true, Bool.or_eq_true, decide_eq_true_eq] at hc63
        exact ⟨by omega, (blank_iff _).2 hc63.2⟩
      refine w_skip ?_
      refine t_norm ?_
      refine w_block ?_
      refine rg_text ?_
      refine x_val rfl rfl rfl (v_move rfl) ?_
      refine x_val rfl rfl rfl (v_addi rfl rfl rfl (by first | omega | (dsimp only; omega))) ?_
      refine x_val rfl rfl rfl (v_assign rfl) ?_
      refine x_end ?_
      refine b_norm ?_
      exact l_norm (k + 1) ⟨by omega, by rw [← skip_go hgo.1 hgo.2]; exact hkB⟩ (by omega) (by repeat (first | exact Sub.nil | refine Sub.cons rfl ?_)) (fun _ h => h)
    · have hns : ¬(k < s.size ∧ blankB (byteAt s k) = true) := fun ⟨h1, h2⟩ => by
        rw [blank_iff] at h2
        rw [hb63, hb62, hb61, hb56, hb55, hb50, hb45, decide_eq_true (show (k : Int) < s.size by omega)] at hc63
        simp only [Bool.true_and, Bool.or_eq_false_iff, decide_eq_false_iff_not] at hc63
        rcases h2 with (h2 | h2) | h2
        · exact hc63.1.1 h2
        · exact hc63.1.2 h2
        · exact hc63.2 h2
      obtain rfl : k = B := by rw [← hkB, skip_stop hns]
      refine w_exit ?_
      refine t_exit ?_
      refine t_exit ?_
      refine b_hit ?_
      refine t_norm ?_
      refine w_seq ?_
      refine w_seq ?_
      refine rg_text ?_
      refine x_val rfl rfl rfl (v_move rfl) ?_
      refine x_val rfl rfl rfl (v_move rfl) ?_
      refine x_val rfl rfl rfl (v_len_str Tryd.underlying9 rfl) ?_
      refine x_bool rfl rfl rfl (v_eql rfl rfl) ?_
      intro b69 hb69
      refine x_end ?_
      refine t_norm ?_
      refine w_cond rfl (fun hc69 => ?_) (fun hc69 => ?_)
      · simp only [hb69, decide_eq_true_eq, decide_eq_false_iff_not, Bool.and_eq_true, Bool.or_eq_true, Bool.and_eq_false_iff, Bool.or_eq_false_iff, Bool.not_eq_true', Bool.not_eq_false', ne_eq, Decidable.not_not] at hc69
        have hlt : ¬k < s.size := by omega
        rw [if_neg hlt] at hpe
        refine w_seq ?_
        refine rg_text ?_
        refine x_val rfl rfl rfl (v_move rfl) ?_
        refine x_val rfl rfl rfl (v_assign rfl) ?_
        refine x_val rfl rfl rfl (v_assign rfl) ?_
        refine x_val rfl rfl rfl (v_assign rfl) ?_
        refine x_end ?_
        refine t_norm ?_
        refine w_ret ?_
        refine t_ret ?_
        refine b_ret ?_
        refine t_ret ?_
        refine b_ret ?_
        refine ret3 rfl rfl rfl rfl (fun w' hm => ?_)
        have eP : parR s = (xs, 0, 0) := by rw [eR]; exact hpe
        refine ⟨_, by rw [eP] <;> rfl, hm.base (by simp), ?_⟩
        rw [eP]
        exact (hT.keep (Kept.frz hm (List.Sublist.refl _) (.head _))).rd (e := 40) hm (fun p hp => List.mem_append_left _ hp) (fun _ h => h.1) (fun p hp => hm.newer (by simp) (List.mem_append_left _ hp)) rfl
      · simp only [hb69, decide_eq_true_eq, decide_eq_false_iff_not, Bool.and_eq_true, Bool.or_eq_true, Bool.and_eq_false_iff, Bool.or_eq_false_iff, Bool.not_eq_true', Bool.not_eq_false', ne_eq, Decidable.not_not] at hc69
        have hlt : k < s.size := by omega
        rw [if_pos hlt] at hpe
        refine w_skip ?_
        refine t_norm ?_
        refine w_seq ?_
        refine w_seq ?_
        refine rg_text ?_
        refine x_val rfl rfl rfl (v_move rfl) ?_
        refine x_val rfl rfl rfl (v_len_slice Tryd.underlying26 rfl) ?_
        refine x_bool rfl rfl rfl (v_eql rfl rfl) ?_
        intro b73 hb73
        refine x_end ?_
        refine t_norm ?_
        refine w_cond rfl (fun hc73 => ?_) (fun hc73 => ?_)
        · simp only [hb73, decide_eq_true_eq, decide_eq_false_iff_not, Bool.and_eq_true, Bool.or_eq_true, Bool.and_eq_false_iff, Bool.or_eq_false_iff, Bool.not_eq_true', Bool.not_eq_false', ne_eq, Decidable.not_not] at hc73
          have h1 : xs.length = 10000 := by omega
          rw [if_pos h1] at hpe
          refine w_seq ?_
          refine rg_text ?_
          refine x_val rfl rfl rfl (v_move rfl) ?_
          refine x_val rfl rfl rfl (v_assign rfl) ?_
          refine x_val rfl rfl rfl (v_assign rfl) ?_
          refine x_val rfl rfl rfl (v_assign rfl) ?_
          refine x_end ?_
          refine t_norm ?_
          refine w_ret ?_
          refine t_ret ?_
          refine b_ret ?_
          refine t_ret ?_
          refine b_ret ?_
          have eP : parR s = ([], ((k : Nat) : Int), 2) := by rw [eR]; exact hpe
          refine ret3 rfl rfl rfl rfl (fun w' hm => ⟨_, by rw [eP] <;> rfl, hm.base (by simp), by rw [eP]; exact sliceRd_nil⟩)
        · simp only [hb73, decide_eq_true_eq, decide_eq_false_iff_not, Bool.and_eq_true, Bool.or_eq_true, Bool.and_eq_false_iff, Bool.or_eq_false_iff, Bool.not_eq_true', Bool.not_eq_false', ne_eq, Decidable.not_not] at hc73
          have h1 : ¬xs.length = 10000 := by omega
          rw [if_neg h1] at hpe
          have hts := tagAt_size (s := s) (a := k) hrg.2
          refine w_skip ?_
          refine t_norm ?_
          refine w_seq ?_
          refine w_seq ?_
          refine rg_text ?_
          refine x_val rfl rfl rfl (v_move rfl) ?_
          refine x_val rfl rfl rfl (v_assign rfl) ?_
          refine x_end ?_
          refine t_norm ?_
          refine w_block ?_
          refine w_loop (σ := Nat) (fun y => k ≤ y ∧ y ≤ k + 3 ∧ y ≤ s.size ∧ ∀ j, k ≤ j → j < y → capB (byteAt s j) = true) (fun y => [(0, Value.string s), (5, Value.pointer (some ⟨p5, 0, none⟩)), (6, Value.int .i64 (k : Nat)), (8, rowV R xs.length), (9, Value.int .i64 (y : Nat))]) (fun y => rowO 40 R ++ [(p5, Obj.cells g.cells.toArray 37)]) (fun y => (ws, notOwn (rowO 40 R ++ [(p5, Obj.cells g.cells.toArray 37)])) :: [(w, fun _ => True)]) (fun y => s.size - y) (k) (⟨Nat.le_refl _, by omega, by omega, by intros; omega⟩) (l_start (by repeat (first | exact Sub.nil | refine Sub.cons rfl ?_)) (fun _ h => h)) ?_
          rintro m ⟨hk1, hk2, hk3, hcp⟩
          refine w_state ([(0, Value.string s), (5, Value.pointer (some ⟨p5, 0, none⟩)), (6, Value.int .i64 (k : Nat)), (8, rowV R xs.length), (9, Value.int .i64 (m : Nat))]) (rowO 40 R ++ [(p5, Obj.cells g.cells.toArray 37)]) ((ws, notOwn (rowO 40 R ++ [(p5, Obj.cells g.cells.toArray 37)])) :: [(w, fun _ => True)]) ?_
          refine w_seq ?_
          refine w_seq ?_
          refine rg_text ?_
          refine x_val rfl rfl rfl (v_move rfl) ?_
          refine x_val rfl rfl rfl (v_move rfl) ?_
          refine x_val rfl rfl rfl (v_addi rfl rfl rfl (by first | omega | (dsimp only; omega))) ?_
          refine x_bool rfl rfl rfl (v_lss rfl rfl) ?_
          intro b79 hb79
          refine x_val rfl rfl rfl (v_move rfl) ?_
          refine x_if [] rfl rfl rfl rfl rfl (fun hg => by obtain ⟨hg0, _⟩ := hg; subst hg0; (try simp only [List.cons_append, List.nil_append, gvl_nil, gvl_t, gvl_f]); exact v_move rfl) ?_
          refine x_if [] rfl rfl rfl rfl rfl (fun hg => by obtain ⟨hg0, _⟩ := hg; subst hg0; (try simp only [List.cons_append, List.nil_append, gvl_nil, gvl_t, gvl_f]); exact v_move rfl) ?_
          refine x_if [] rfl rfl rfl rfl rfl (fun hg => by obtain ⟨hg0, _⟩ := hg; subst hg0; (try simp only [List.cons_append, List.nil_append, gvl_nil, gvl_t, gvl_f]); exact v_len_str Tryd.underlying9 rfl) ?_
          refine x_ifb [] rfl rfl rfl rfl rfl (fun hg => by obtain ⟨hg0, _⟩ := hg; subst hg0; (try simp only [List.cons_append, List.nil_append, gvl_nil, gvl_t, gvl_f]); exact v_lss rfl rfl) ?_
          intro b84 hb84
          refine x_bool rfl rfl rfl (v_and rfl rfl) ?_
          intro b85 hb85
          refine x_end ?_
          refine t_norm ?_
          refine w_cond rfl (fun hc85 => ?_) (fun hc85 => ?_)
          · simp only [hb85, hb84, hb79, decide_eq_true_eq, decide_eq_false_iff_not, Bool.and_eq_true, Bool.or_eq_true, Bool.and_eq_false_iff, Bool.or_eq_false_iff, Bool.not_eq_true', Bool.not_eq_false', ne_eq, Decidable.not_not] at hc85
            have hm1 : m < k + 3 ∧ m < s.size := by omega
            refine w_skip ?_
            refine t_norm ?_
            refine w_seq ?_
            refine w_block ?_
            refine w_seq ?_
            refine rg_text ?_
            refine x_val rfl rfl rfl (v_move rfl) ?_
            refine x_val rfl rfl rfl (v_move rfl) ?_
            refine x_val rfl rfl rfl (v_index Tryd.underlying9 rfl rfl (by omega)) ?_
            refine x_callb rfl rfl rfl Tryd.func20 (by kernel_rfl) rfl (fun w1 hw1 => c_rcapital _ w1) ?_
            intro b91 hb91
            refine x_val rfl rfl rfl (v_assign rfl) ?_
            refine x_end ?_
            refine t_norm ?_
            refine w_seq ?_
            refine rg_text ?_
            refine x_val rfl rfl rfl (v_move rfl) ?_
            refine x_bool rfl rfl rfl (v_not rfl) ?_
            intro b93 hb93
            refine x_end ?_
            refine t_norm ?_
            refine w_cond rfl (fun hc93 => ?_) (fun hc93 => ?_)
            · have hnc : ¬allCap (tagAt s k) := fun h => by
                have h2 := h (m - k) (by omega)
                rw [tagAt_byte hrg.2 (by omega), show k + (m - k) = m by omega] at h2
                rw [hb93, hb91, h2] at hc93; cases hc93
              have eT : tagR s g k = ((⟨#[]⟩, ((k : Nat) : Int), 40), k) := by unfold tagR; rw [if_pos hnc]
              rw [eT, if_pos (show (40 : Int) ≠ 0 by decide)] at hpe
              refine w_seq ?_
              refine rg_text ?_
              refine x_val rfl rfl rfl (v_move rfl) ?_
              refine x_val rfl rfl rfl (v_assign rfl) ?_
              refine x_val rfl rfl rfl (v_assign rfl) ?_
              refine x_val rfl rfl rfl (v_assign rfl) ?_
              refine x_end ?_
              refine t_norm ?_
              refine w_ret ?_
              refine b_ret ?_
              refine t_ret ?_
              refine t_ret ?_
              refine b_ret ?_
              refine t_ret ?_
              refine b_ret ?_
              refine t_ret ?_
              refine b_ret ?_
              have eP : parR s = ([], ((k : Nat) : Int), 40) := by rw [eR]; exact hpe
              refine ret3 rfl rfl rfl rfl (fun w' hm => ⟨_, by rw [eP] <;> rfl, hm.base (by simp), by rw [eP]; exact sliceRd_nil⟩)
            · have hcap : capB (byteAt s m) = true := by rw [hb93, hb91] at hc93; simpa using hc93
              refine w_skip ?_
              refine b_norm ?_
              refine t_norm ?_
              refine rg_text ?_
              refine x_val rfl rfl rfl (v_move rfl) ?_
              refine x_val rfl rfl rfl (v_addi rfl rfl rfl (by first | omega | (dsimp only; omega))) ?_
              refine x_val rfl rfl rfl (v_assign rfl) ?_
              refine x_end ?_
              exact l_norm (m + 1) ⟨by omega, by omega, by omega, fun j h1 h2 => by rcases Nat.lt_succ_iff_lt_or_eq.1 h2 with h | rfl; (· exact hcp j h1 h); exact hcap⟩ (by omega) (by repeat (first | exact Sub.nil | refine Sub.cons rfl ?_)) (fun _ h => h)
          · simp only [hb85, hb84, hb79, decide_eq_true_eq, decide_eq_false_iff_not, Bool.and_eq_true, Bool.or_eq_true, Bool.and_eq_false_iff, Bool.or_eq_false_iff, Bool.not_eq_true', Bool.not_eq_false', ne_eq, Decidable.not_not] at hc85
            have hm1 : ¬(m < k + 3 ∧ m < s.size) := by omega
            have hall : allCap (tagAt s k) := fun j hj => by rw [tagAt_byte hrg.2 hj]; exact hcp _ (by omega) (by omega)
            refine w_exit ?_
            refine t_exit ?_
            refine t_exit ?_
            refine b_hit ?_
            refine t_norm ?_
            refine w_seq ?_
            refine w_seq ?_
            refine rg_text ?_
            refine x_val rfl rfl rfl (v_move rfl) ?_
            refine x_val rfl rfl rfl (v_addi rfl rfl rfl (by first | omega | (dsimp only; omega))) ?_
            refine x_val rfl rfl rfl (v_move rfl) ?_
            refine x_val rfl rfl rfl (v_len_str Tryd.underlying9 rfl) ?_
            refine x_bool rfl rfl rfl (v_geq rfl rfl) ?_
            intro b99 hb99
            refine x_end ?_
            refine t_norm ?_
            refine w_cond rfl (fun hc99 => ?_) (fun hc99 => ?_)
            · simp only [hb99, decide_eq_true_eq, decide_eq_false_iff_not, Bool.and_eq_true, Bool.or_eq_true, Bool.and_eq_false_iff, Bool.or_eq_false_iff, Bool.not_eq_true', Bool.not_eq_false', ne_eq, Decidable.not_not] at hc99
              have hor : (tagAt s k).size < 3 ∨ k + (tagAt s k).size = s.size := by omega
              have eT : tagR s g k = ((⟨#[]⟩, ((s.size : Nat) : Int), 10), k + (tagAt s k).size) := by unfold tagR; rw [if_neg (fun h => h hall), if_pos hor]
              rw [eT, if_pos (show (10 : Int) ≠ 0 by decide)] at hpe
              refine w_seq ?_
              refine rg_text ?_
              refine x_val rfl rfl rfl (v_move rfl) ?_
              refine x_val rfl rfl rfl (v_len_str Tryd.underlying9 rfl) ?_
              refine x_val rfl rfl rfl (v_assign rfl) ?_
              refine x_val rfl rfl rfl (v_assign rfl) ?_
              refine x_val rfl rfl rfl (v_assign rfl) ?_
              refine x_end ?_
              refine t_norm ?_
              refine w_ret ?_
              refine t_ret ?_
              refine b_ret ?_
              refine t_ret ?_
              refine b_ret ?_
              have eP : parR s = ([], ((s.size : Nat) : Int), 10) := by rw [eR]; exact hpe
              refine ret3 rfl rfl rfl rfl (fun w' hm => ⟨_, by rw [eP] <;> rfl, hm.base (by simp), by rw [eP]; exact sliceRd_nil⟩)
            · simp only [hb99, decide_eq_true_eq, decide_eq_false_iff_not, Bool.and_eq_true, Bool.or_eq_true, Bool.and_eq_false_iff, Bool.or_eq_false_iff, Bool.not_eq_true', Bool.not_eq_false', ne_eq, Decidable.not_not] at hc99
              have hor : ¬((tagAt s k).size < 3 ∨ k + (tagAt s k).size = s.size) := by omega
              have ht3 : (tagAt s k).size = 3 := by omega
              have hk3 : k + 3 < s.size := by omega
              refine w_skip ?_
              refine t_norm ?_
              refine w_seq ?_
              refine rg_text ?_
              refine x_val rfl rfl rfl (v_move rfl) ?_
              refine x_val rfl rfl rfl (v_move rfl) ?_
              refine x_val rfl rfl rfl (v_move rfl) ?_
              refine x_val rfl rfl rfl (v_addi rfl rfl rfl (by first | omega | (dsimp only; omega))) ?_
              refine x_val (v := Value.string (tagAt s k)) rfl rfl rfl (by rw [tagAt_cut (Nat.le_of_lt hk3)]; exact v_cut (i := k) (j := k + 3) Tryd.underlying9 rfl rfl rfl (Nat.le_add_right _ _) (Nat.le_of_lt hk3)) ?_
              refine x_val rfl rfl rfl (v_buildL (places := [(0, 1), (1, 1)]) Tryd.underlying40 zr40 (by kernel_rfl) rfl rfl) ?_
              refine x_alloc rfl rfl rfl zr40 ?_
              intro p11
              refine x_store0 [] rfl rfl rfl rfl sz40 rfl rfl ?_
              refine x_end ?_
              refine t_norm ?_
              refine w_seq ?_
              refine w_state _ ((p11, Obj.cells [Value.string (tagAt s k), .slice none 0 0].toArray 40) :: (rowO 40 R ++ [(p5, Obj.cells g.cells.toArray 37)])) _ ?_
              refine rg_text ?_
              refine x_val rfl rfl rfl (v_move rfl) ?_
              refine x_val rfl rfl rfl (v_addi rfl rfl rfl (by first | omega | (dsimp only; omega))) ?_
              refine x_val rfl rfl rfl (v_assign rfl) ?_
              refine x_end ?_
              refine t_norm ?_
              refine w_seq ?_
              refine w_seq ?_
              refine rg_draw 14 [(true, 0), (true, 1), (true, 2), (true, 3), (true, 4), (true, 5), (true, 6), (true, 7), (true, 8), (true, 9), (true, 10), (true, 11), (true, 12), (true, 13)] (by kernel_rfl) (by kernel_rfl) ?_
              refine x_val rfl rfl rfl (v_move rfl) ?_
              refine x_val rfl rfl rfl (v_move rfl) ?_
              refine x_val rfl rfl rfl (v_index Tryd.underlying9 rfl rfl (hk3)) ?_
              refine x_val rfl rfl rfl (v_indexArr (j := 1) Tryd.underlying37 sz5 rfl rfl (by first | omega | (dsimp only; omega)) rfl) ?_
              refine x_val rfl rfl rfl (v_load Tryd.underlying5 rfl rfl (by first | exact at_ownL (.head _) rfl | exact at_ownL (.tail _ (.head _)) rfl | exact at_ownL (.tail _ (.tail _ (.head _))) rfl | (apply at_ownL; ((repeat (first | exact List.Mem.head _ | apply List.Mem.tail | apply List.mem_append_right))); rfl) | (refine at_ro (by first | exact .head _ | exact .tail _ (.head _) | exact .tail _ (.tail _ (.head _)) | simp) ?_ (by assumption); trivial))) ?_
              refine x_bool rfl rfl rfl (v_neq rfl rfl) ?_
              intro b115 hb115
              refine x_val rfl rfl rfl (v_move rfl) ?_
              refine x_if [] rfl rfl rfl rfl rfl (fun hg => by obtain ⟨hg0, _⟩ := hg; subst hg0; (try simp only [List.cons_append, List.nil_append, gvl_nil, gvl_t, gvl_f]); exact v_move rfl) ?_
              refine x_if [] rfl rfl rfl rfl rfl (fun hg => by obtain ⟨hg0, _⟩ := hg; subst hg0; (try simp only [List.cons_append, List.nil_append, gvl_nil, gvl_t, gvl_f]); exact v_move rfl) ?_
              refine x_if [] rfl rfl rfl rfl rfl (fun hg => by obtain ⟨hg0, _⟩ := hg; subst hg0; (try simp only [List.cons_append, List.nil_append, gvl_nil, gvl_t, gvl_f]); exact v_index Tryd.underlying9 rfl rfl (hk3)) ?_
              refine x_if [] rfl rfl rfl rfl rfl (fun hg => by obtain ⟨hg0, _⟩ := hg; subst hg0; (try simp only [List.cons_append, List.nil_append, gvl_nil, gvl_t, gvl_f]); exact v_indexArr (j := 3) Tryd.underlying37 sz5 rfl rfl (by first | omega | (dsimp only; omega)) rfl) ?_
              refine x_if [] rfl rfl rfl rfl rfl (fun hg => by obtain ⟨hg0, _⟩ := hg; subst hg0; (try simp only [List.cons_append, List.nil_append, gvl_nil, gvl_t, gvl_f]); exact v_load Tryd.underlying5 rfl rfl (by first | exact at_ownL (.head _) rfl | exact at_ownL (.tail _ (.head _)) rfl | exact at_ownL (.tail _ (.tail _ (.head _))) rfl | (apply at_ownL; ((repeat (first | exact List.Mem.head _ | apply List.Mem.tail | apply List.mem_append_right))); rfl) | (refine at_ro (by first | exact .head _ | exact .tail _ (.head _) | exact .tail _ (.tail _ (.head _)) | simp) ?_ (by assumption); trivial))) ?_
              refine x_ifb [] rfl rfl rfl rfl rfl (fun hg => by obtain ⟨hg0, _⟩ := hg; subst hg0; (try simp only [List.cons_append, List.nil_append, gvl_nil, gvl_t, gvl_f]); exact v_neq rfl rfl) ?_
              intro b122 hb122
              refine x_bool rfl rfl rfl (v_and rfl rfl) ?_
              intro b123 hb123
              refine x_end ?_
              refine t_norm ?_
              refine w_cond rfl (fun hc123 => ?_) (fun hc123 => ?_)
              · simp only [hb123, hb122, hb115, decide_eq_true_eq, decide_eq_false_iff_not, Bool.and_eq_true, Bool.or_eq_true, Bool.and_eq_false_iff, Bool.or_eq_false_iff, Bool.not_eq_true', Bool.not_eq_false', ne_eq, Decidable.not_not] at hc123
                have hne : byteAt s (k + 3) ≠ g.e ∧ byteAt s (k + 3) ≠ g.n := ⟨fun h => hc123.1 (u8_lit.2 h), fun h => hc123.2 (u8_lit.2 h)⟩
                have eT : tagR s g k = ((⟨#[]⟩, ((k + 3 : Nat) : Int), 40), k + 3) := by unfold tagR; rw [if_neg (fun h => h hall), if_neg hor, ht3, if_pos hne]
                rw [eT, if_pos (show (40 : Int) ≠ 0 by decide)] at hpe
                refine w_seq ?_
                refine rg_text ?_
                refine x_val rfl rfl rfl (v_move rfl) ?_
                refine x_val rfl rfl rfl (v_assign rfl) ?_
                refine x_val rfl rfl rfl (v_assign rfl) ?_
                refine x_val rfl rfl rfl (v_assign rfl) ?_
                refine x_end ?_
                refine t_norm ?_
                refine w_ret ?_
                refine t_ret ?_
                refine b_ret ?_
                refine t_ret ?_
                refine b_ret ?_
                have eP : parR s = ([], ((k + 3 : Nat) : Int), 40) := by rw [eR]; exact hpe
                refine ret3 rfl rfl rfl rfl (fun w' hm => ⟨_, by rw [eP] <;> rfl, hm.base (by simp), by rw [eP]; exact sliceRd_nil⟩)
              · simp only [hb123, hb122, hb115, decide_eq_true_eq, decide_eq_false_iff_not, Bool.and_eq_true, Bool.or_eq_true, Bool.and_eq_false_iff, Bool.or_eq_false_iff, Bool.not_eq_true', Bool.not_eq_false', ne_eq, Decidable.not_not] at hc123
                have hen : byteAt s (k + 3) = g.e ∨ byteAt s (k + 3) = g.n := by rcases hc123 with h | h; (· exact .inl (u8_lit.1 h)); exact .inr (u8_lit.1 h)
                have eT : tagR s g k = (((tagAt s k), 0, 0), k + 3) := by unfold tagR; rw [if_neg (fun h => h hall), if_neg hor, ht3, if_neg (fun h => by rcases hen with h2 | h2; (· exact h.1 h2); exact h.2 h2)]
                rw [eT, if_neg (show ¬(0 : Int) ≠ 0 by decide)] at hpe
                dsimp only at hpe
                refine w_skip ?_
                refine t_norm ?_
                refine w_seq ?_
                refine rg_text ?_
                refine x_val rfl rfl rfl (v_move rfl) ?_
                refine x_val rfl rfl rfl (v_move rfl) ?_
                refine x_val rfl rfl rfl (v_load_blk (e := 37) (fz := (0, 0)) (cs := g.cells.toArray) Tryd.underlying37 rfl rfl (.tail _ (List.mem_append_right _ (.head _))) sz37) ?_
                refine x_call (R := fun v wa wb => ∃ u n, v = .tuple #[u, .int .i64 n, .bool (elP s g (byteAt s (k + 3)) (k + 3 + 1) []).isSome] ∧ ∀ l z, elP s g (byteAt s (k + 3)) (k + 3 + 1) [] = some (l, z) → n = (z : Nat) ∧ sliceRd (tySlice tyStr) (fun b => wa.heap.size ≤ b) wb u l) rfl rfl rfl Tryd.func21 (by kernel_rfl) rfl (fun w1 hw1 => (c_relements g s (k + 3) w1 hs hrs hk3 hen).mono fun e w2 ⟨u, n, h1, h2, h3⟩ => ⟨_, h1, h2, u, n, rfl, h3⟩) ?_
                intro v129 wa wb hwa hwl hR
                obtain ⟨u, nz, rfl, hel⟩ := hR
                obtain ⟨q, hE⟩ : ∃ q, elP s g (byteAt s (k + 3)) (k + 3 + 1) [] = q := ⟨_, rfl⟩
                rw [hE] at hpe hel ⊢
                refine x_val rfl rfl rfl (v_move rfl) ?_
                refine x_val rfl rfl rfl (v_extract rfl rfl) ?_
                refine x_val rfl rfl rfl (v_extract rfl rfl) ?_
                refine x_bool rfl rfl rfl (v_extract rfl rfl) ?_
                intro b132 hb132
                refine x_val rfl rfl rfl (v_assign rfl) ?_
                refine x_val rfl rfl rfl (v_assign rfl) ?_
                refine x_val rfl rfl rfl (v_assign rfl) ?_
                refine x_end ?_
                refine t_norm ?_
                refine w_seq ?_
                refine w_seq ?_
                refine rg_text ?_
                refine x_val rfl rfl rfl (v_move rfl) ?_
                refine x_bool rfl rfl rfl (v_not rfl) ?_
                intro b134 hb134
                refine x_end ?_
                refine t_norm ?_
                refine w_cond rfl (fun hc134 => ?_) (fun hc134 => ?_)
                · simp only [hb134, hb132, decide_eq_true_eq, decide_eq_false_iff_not, Bool.and_eq_true, Bool.or_eq_true, Bool.and_eq_false_iff, Bool.or_eq_false_iff, Bool.not_eq_true', Bool.not_eq_false', ne_eq, Decidable.not_not] at hc134
                  have hq : q = none := by cases q with | none => rfl | some y => simp at hc134
                  subst hq
                  refine w_seq ?_
                  refine rg_text ?_
                  refine x_val rfl rfl rfl (v_move rfl) ?_
                  refine x_val rfl rfl rfl (v_len_str Tryd.underlying9 rfl) ?_
                  refine x_val rfl rfl rfl (v_assign rfl) ?_
                  refine x_val rfl rfl rfl (v_assign rfl) ?_
                  refine x_val rfl rfl rfl (v_assign rfl) ?_
                  refine x_end ?_
                  refine t_norm ?_
                  refine w_ret ?_
                  refine t_ret ?_
                  refine b_ret ?_
                  refine t_ret ?_
                  refine b_ret ?_
                  have eP : parR s = ([], ((s.size : Nat) : Int), 10) := by rw [eR]; exact hpe
                  refine ret3 rfl rfl rfl rfl (fun w' hm => ⟨_, by rw [eP] <;> rfl, hm.base (by simp), by rw [eP]; exact sliceRd_nil⟩)
                · simp only [hb134, hb132, decide_eq_true_eq, decide_eq_false_iff_not, Bool.and_eq_true, Bool.or_eq_true, Bool.and_eq_false_iff, Bool.or_eq_false_iff, Bool.not_eq_true', Bool.not_eq_false', ne_eq, Decidable.not_not] at hc134
                  obtain ⟨l, z, rfl⟩ : ∃ l z2, q = some (l, z2) := by cases q with | none => simp at hc134 | some y => exact ⟨y.1, y.2, rfl⟩
                  obtain ⟨rfl, hl⟩ := hel l z rfl
                  obtain ⟨Au, cu, rfl, hu1, hu2, _⟩ := id hl
                  have hadv := el_adv (by omega) hE
                  obtain ⟨css, hcl, hrow, hrd⟩ := hT
                  refine w_skip ?_
                  refine t_norm ?_
                  refine w_seq ?_
                  refine rg_text ?_
                  refine x_val rfl rfl rfl (v_move rfl) ?_
                  refine x_val rfl rfl rfl (v_fieldAddr (off' := 1) Tryd.underlying40 rfl sz38 (by decide) rfl rfl) ?_
                  refine x_store (cs := [Value.string (tagAt s k), .slice none 0 0]) (off := 1) [] rfl rfl rfl rfl sz38 rfl (by show 2 ≤ 2; decide) ?_
                  refine x_end ?_
                  refine t_norm ?_
                  refine w_seq ?_
                  refine rg_text ?_
                  refine x_val rfl rfl rfl (v_move rfl) ?_
                  refine x_val rfl rfl rfl (v_load_blk (e := 40) (fz := (0, 0)) (cs := [Value.string (tagAt s k), .slice Au l.length cu].toArray) Tryd.underlying40 rfl rfl (.head _) sz40) ?_
                  refine x_buildSliceL (cs := [Value.string (tagAt s k), .slice Au l.length cu]) rfl rfl rfl Tryd.underlying26 sz40 zr40 rfl rfl rfl ?_
                  intro p141
                  refine x_append (e := 40) [(p141, Obj.cells [Value.string (tagAt s k), .slice Au l.length cu].toArray 40), (p11, Obj.cells [Value.string (tagAt s k), .slice Au l.length cu].toArray 40)] (l2 := [(p5, Obj.cells g.cells.toArray 37)]) R (len := xs.length) (xs := css.flatten) rfl rfl rfl rfl rfl hrow Tryd.underlying26 ap40 rfl rfl (m := 1) (news := [Value.string (tagAt s k), .slice Au l.length cu]) (fun i hi => at_ownL (vs := [Value.string (tagAt s k), .slice Au l.length cu]) (.head _) (by rw [Nat.zero_add]; exact List.getElem?_eq_getElem hi)) rfl (by simp only [maxLen]; omega) (by omega) ?_
                  intro R' hR'
                  refine x_val rfl rfl rfl (v_assign rfl) ?_
                  refine x_end ?_
                  refine t_norm ?_
                  refine rg_text ?_
                  refine x_val rfl rfl rfl (v_move rfl) ?_
                  refine x_val rfl rfl rfl (v_assign rfl) ?_
                  refine x_end ?_
                  refine b_norm ?_
                  refine s_fix (rowO 40 R' ++ [(p5, Obj.cells g.cells.toArray 37)]) ((List.sublist_cons_self _ _).trans (List.sublist_cons_self _ _)) (fun w0 hm0 => ?_)
                  have hok : okS (tagAt s k) := by unfold okS; omega
                  have hT' := snocN (T := tySeg) (D := newD w (rowO 40 R' ++ [(p5, Obj.cells g.cells.toArray 37)])) (ws := w0) (x := ⟨tagAt s k, l⟩) rfl hcl (fun j h1 h2 => tySeg.keep (hrd j h1 h2) (Kept.frz hm0 ((List.sublist_cons_self _ _).trans (List.sublist_cons_self _ _)) (by simp))) hR' (tySeg_mk rfl hok (hl.keep (Kept.made2 (hm0.less ((List.sublist_cons_self _ _).trans (List.sublist_cons_self _ _)) (fun _ h => h)) (.head _) (fun k hk p hp he => by have := hwa.lt hp; omega) (hwa.base (by simp)).size)))
                  exact l_norm (x := (x, xs, R, ws)) (μ := fun q : Nat × List Seg × RowS × World => s.size - q.1) (z, xs ++ [⟨tagAt s k, l⟩], R', w0) ⟨hadv.2, by dsimp only; rw [hpe], by simp; omega, by simp; omega, hT'⟩ (by simp only; omega) (by dsimp only; rw [List.length_append, List.length_singleton]; repeat (first | exact Sub.nil | refine Sub.cons rfl ?_)) (fun w1 h => h.less (List.Sublist.refl _) (fun q hq => by simp at hq ⊢; rcases hq with h | h; (· exact .inl h); simp [h]))

end Go.Proofs.YtbamklefagghcaaDoor

namespace Go.Proofs.YtbamklefagghcaaDoor
open Go.RowKit Go.PK
set_option linter.unusedVariables false
set_option linter.unusedSimpArgs false
theorem take_eq_succ {α : Type} {xs ys : List α} {k : Nat} (h1 : k < xs.length) (h2 : k < ys.length) (h : xs.take k = ys.take k) (he : xs[k] = ys[k]) : xs.take (k + 1) = ys.take (k + 1) := by
  rw [List.take_succ_eq_append_getElem h1, List.take_succ_eq_append_getElem h2, h, he]
theorem take_all {α : Type} {xs ys : List α} (h : xs.length = ys.length) (ht : xs.take xs.length = ys.take xs.length) : xs = ys := by
  rw [List.take_length] at ht; rw [ht, h, List.take_length]
theorem seg_ext {x y : Seg} (h1 : x.tag = y.tag) (h2 : x.els = y.els) : x = y := by cases x; cases y; cases h1; cases h2; rfl
theorem ne_at {α : Type} {xs ys : List α} {k : Nat} (h1 : k < xs.length) (h2 : k < ys.length) (he : xs[k] ≠ ys[k]) : xs ≠ ys := fun h => by subst h; exact he rfl
set_option maxRecDepth 100000 in
theorem c_Same {u v : Value} {xs ys : List Seg} {D1 D2 : Nat → Prop} (w : World) (h1s : sliceRd tySeg D1 w u xs) (h2s : sliceRd tySeg D2 w v ys) :
    Calls Tryd.prog 9 #[u, v] w fun e w' => e = .returned (.bool (decide (xs = ys))) ∧ Later w w' := by
  obtain ⟨A1, c1, rfl, hl1, hm1, _⟩ := id h1s
  obtain ⟨A2, c2, rfl, hl2, hm2, _⟩ := id h2s
  refine enter (vs := [.slice A1 xs.length c1, .slice A2 ys.length c2]) Tryd.func9 rfl Tryd.ntmps9 rfl ?_
  refine w_seq ?_
  refine rg_text ?_
  refine x_val rfl rfl rfl (v_assign rfl) ?_
  refine x_end ?_
  refine t_norm ?_
  refine w_seq ?_
  refine w_seq ?_
  refine rg_text ?_
  refine x_val rfl rfl rfl (v_move rfl) ?_
  refine x_val rfl rfl rfl (v_len_slice Tryd.underlying26 rfl) ?_
  refine x_val rfl rfl rfl (v_move rfl) ?_
  refine x_val rfl rfl rfl (v_len_slice Tryd.underlying26 rfl) ?_
  refine x_bool rfl rfl rfl (v_neq rfl rfl) ?_
  intro b14 hb14
  refine x_end ?_
  refine t_norm ?_
  refine w_cond rfl (fun hc14 => ?_) (fun hc14 => ?_)
  · simp only [hb14, decide_eq_true_eq, decide_eq_false_iff_not, Bool.and_eq_true, Bool.or_eq_true, Bool.and_eq_false_iff, Bool.or_eq_false_iff, Bool.not_eq_true', Bool.not_eq_false', ne_eq, Decidable.not_not] at hc14
    have hne : xs ≠ ys := fun h => by rw [h] at hc14; exact hc14 rfl
    refine w_seq ?_
    refine rg_text ?_
    refine x_val rfl rfl rfl (v_assign rfl) ?_
    refine x_end ?_
    refine t_norm ?_
    refine w_ret ?_
    refine t_ret ?_
    refine ret1 rfl rfl (fun w' hm => ⟨?_, hm.base (by simp)⟩)
    rw [decide_eq_false (hne)]
  · simp only [hb14, decide_eq_true_eq, decide_eq_false_iff_not, Bool.and_eq_true, Bool.or_eq_true, Bool.and_eq_false_iff, Bool.or_eq_false_iff, Bool.not_eq_true', Bool.not_eq_false', ne_eq, Decidable.not_not] at hc14
    have hlen : xs.length = ys.length := by omega
    refine w_skip ?_
    refine t_norm ?_
    refine w_seq ?_
    refine w_seq ?_
    refine rg_text ?_
    refine x_val rfl rfl rfl (v_assign rfl) ?_
    refine x_end ?_
    refine t_norm ?_
    refine w_block ?_
    refine w_loop (σ := Nat) (fun x => x ≤ xs.length ∧ xs.take x = ys.take x) (fun x => [(0, Value.slice A1 xs.length c1), (1, Value.slice A2 ys.length c2), (5, Value.int .i64 (x : Nat))]) (fun x => []) (fun x => [(w, fun _ => True)]) (fun x => xs.length - x) (0) (⟨Nat.zero_le _, rfl⟩) (l_start (by repeat (first | exact Sub.nil | refine Sub.cons rfl ?_)) (fun _ h => h)) ?_
    rintro k ⟨hk, ht⟩
    refine w_state ([(0, Value.slice A1 xs.length c1), (1, Value.slice A2 ys.length c2), (5, Value.int .i64 (k : Nat))]) ([]) ([(w, fun _ => True)]) ?_
    refine w_seq ?_
    refine w_seq ?_
    refine rg_text ?_
    refine x_val rfl rfl rfl (v_move rfl) ?_
    refine x_val rfl rfl rfl (v_move rfl) ?_
    refine x_val rfl rfl rfl (v_len_slice Tryd.underlying26 rfl) ?_
    refine x_bool rfl rfl rfl (v_lss rfl rfl) ?_
    intro b18 hb18
    refine x_end ?_
    refine t_norm ?_
    refine w_cond rfl (fun hc18 => ?_) (fun hc18 => ?_)
    · simp only [hb18, decide_eq_true_eq, decide_eq_false_iff_not, Bool.and_eq_true, Bool.or_eq_true, Bool.and_eq_false_iff, Bool.or_eq_false_iff, Bool.not_eq_true', Bool.not_eq_false', ne_eq, Decidable.not_not] at hc18
      have h1 : k < xs.length := by omega
      have h2 : k < ys.length := by omega
      obtain ⟨b1, o1, u1, hA1, _, ht1, hv1, hk1, hr1⟩ := seg_at h1s h1
      obtain ⟨b2, o2, u2, hA2, _, ht2, hv2, hk2, hr2⟩ := seg_at h2s h2
      subst hA1 hA2
      obtain ⟨A3, c3, rfl, hl3, hm3, _⟩ := id hr1
      obtain ⟨A4, c4, rfl, hl4, hm4, _⟩ := id hr2
      refine w_skip ?_
      refine t_norm ?_
      refine w_seq ?_
      refine w_block ?_
      refine w_seq ?_
      refine w_seq ?_
      refine rg_draw 26 [(true, 0), (true, 1), (true, 2), (true, 3), (true, 4), (true, 5), (true, 6), (true, 7), (true, 8), (true, 9), (true, 10), (true, 11), (true, 12), (true, 13), (true, 14), (true, 15), (true, 16), (true, 17), (true, 18), (true, 19), (true, 20), (true, 21), (true, 22), (true, 23), (true, 24), (true, 25)] (by kernel_rfl) (by kernel_rfl) ?_
      refine x_val rfl rfl rfl (v_move rfl) ?_
      refine x_val rfl rfl rfl (v_move rfl) ?_
      refine x_val rfl rfl rfl (v_indexAddr Tryd.underlying26 sz40 rfl rfl (by first | omega | (dsimp only; omega)) rfl) ?_
      refine x_val rfl rfl rfl (v_fieldAddr Tryd.underlying40 rfl sz9 (by decide) rfl rfl) ?_
      refine x_val rfl rfl rfl (v_load Tryd.underlying9 rfl rfl (at_ro (.head _) trivial ht1)) ?_
      refine x_val rfl rfl rfl (v_move rfl) ?_
      refine x_val rfl rfl rfl (v_move rfl) ?_
      refine x_val rfl rfl rfl (v_indexAddr Tryd.underlying26 sz40 rfl rfl (by first | omega | (dsimp only; omega)) rfl) ?_
      refine x_val rfl rfl rfl (v_fieldAddr Tryd.underlying40 rfl sz9 (by decide) rfl rfl) ?_
      refine x_val rfl rfl rfl (v_load Tryd.underlying9 rfl rfl (at_ro (.head _) trivial ht2)) ?_
      refine x_bool rfl rfl rfl (v_sneq rfl rfl) ?_
      intro b31 hb31
      refine x_val rfl rfl rfl (v_move rfl) ?_
      refine x_if [] rfl rfl rfl rfl rfl (fun hg => by obtain ⟨hg0, _⟩ := hg; subst hg0; (try simp only [List.cons_append, List.nil_append, gvl_nil, gvl_t, gvl_f]); exact v_move rfl) ?_
      refine x_if [] rfl rfl rfl rfl rfl (fun hg => by obtain ⟨hg0, _⟩ := hg; subst hg0; (try simp only [List.cons_append, List.nil_append, gvl_nil, gvl_t, gvl_f]); exact v_move rfl) ?_
      refine x_if [] rfl rfl rfl rfl rfl (fun hg => by obtain ⟨hg0, _⟩ := hg; subst hg0; (try simp only [List.cons_append, List.nil_append, gvl_nil, gvl_t, gvl_f]); exact v_indexAddr Tryd.underlying26 sz40 rfl rfl (by first | omega | (dsimp only; omega)) rfl) ?_
      refine x_if [] rfl rfl rfl rfl rfl (fun hg => by obtain ⟨hg0, _⟩ := hg; subst hg0; (try simp only [List.cons_append, List.nil_append, gvl_nil, gvl_t, gvl_f]); exact v_fieldAddr Tryd.underlying40 rfl sz38 (by decide) rfl rfl) ?_
      refine x_if [] rfl rfl rfl rfl rfl (fun hg => by obtain ⟨hg0, _⟩ := hg; subst hg0; (try simp only [List.cons_append, List.nil_append, gvl_nil, gvl_t, gvl_f]); exact v_load Tryd.underlying38 rfl rfl (at_ro (.head _) trivial hv1)) ?_
      refine x_if [] rfl rfl rfl rfl rfl (fun hg => by obtain ⟨hg0, _⟩ := hg; subst hg0; (try simp only [List.cons_append, List.nil_append, gvl_nil, gvl_t, gvl_f]); exact v_len_slice Tryd.underlying38 rfl) ?_
      refine x_if [] rfl rfl rfl rfl rfl (fun hg => by obtain ⟨hg0, _⟩ := hg; subst hg0; (try simp only [List.cons_append, List.nil_append, gvl_nil, gvl_t, gvl_f]); exact v_move rfl) ?_
      refine x_if [] rfl rfl rfl rfl rfl (fun hg => by obtain ⟨hg0, _⟩ := hg; subst hg0; (try simp only [List.cons_append, List.nil_append, gvl_nil, gvl_t, gvl_f]); exact v_move rfl) ?_
      refine x_if [] rfl rfl rfl rfl rfl (fun hg => by obtain ⟨hg0, _⟩ := hg; subst hg0; (try simp only [List.cons_append, List.nil_append, gvl_nil, gvl_t, gvl_f]); exact v_indexAddr Tryd.underlying26 sz40 rfl rfl (by first | omega | (dsimp only; omega)) rfl) ?_
      refine x_if [] rfl rfl rfl rfl rfl (fun hg => by obtain ⟨hg0, _⟩ := hg; subst hg0; (try simp only [List.cons_append, List.nil_append, gvl_nil, gvl_t, gvl_f]); exact v_fieldAddr Tryd.underlying40 rfl sz38 (by decide) rfl rfl) ?_
      refine x_if [] rfl rfl rfl rfl rfl (fun hg => by obtain ⟨hg0, _⟩ := hg; subst hg0; (try simp only [List.cons_append, List.nil_append, gvl_nil, gvl_t, gvl_f]); exact v_load Tryd.underlying38 rfl rfl (at_ro (.head _) trivial hv2)) ?_
      refine x_if [] rfl rfl rfl rfl rfl (fun hg => by obtain ⟨hg0, _⟩ := hg; subst hg0; (try simp only [List.cons_append, List.nil_append, gvl_nil, gvl_t, gvl_f]); exact v_len_slice Tryd.underlying38 rfl) ?_
      refine x_ifb [] rfl rfl rfl rfl rfl (fun hg => by obtain ⟨hg0, _⟩ := hg; subst hg0; (try simp only [List.cons_append, List.nil_append, gvl_nil, gvl_t, gvl_f]); exact v_neq rfl rfl) ?_
      intro b45 hb45
      refine x_bool rfl rfl rfl (v_or rfl rfl) ?_
      intro b46 hb46
      refine x_end ?_
      refine t_norm ?_
      refine w_cond rfl (fun hc46 => ?_) (fun hc46 => ?_)
      · simp only [hb46, hb45, hb31, decide_eq_true_eq, decide_eq_false_iff_not, Bool.and_eq_true, Bool.or_eq_true, Bool.and_eq_false_iff, Bool.or_eq_false_iff, Bool.not_eq_true', Bool.not_eq_false', ne_eq, Decidable.not_not] at hc46
        have hne : xs ≠ ys := ne_at h1 h2 (fun h => by rcases hc46 with h3 | h3; (· exact h3 (by rw [h])); exact h3 (by rw [h]))
        refine w_seq ?_
        refine rg_text ?_
        refine x_val rfl rfl rfl (v_assign rfl) ?_
        refine x_end ?_
        refine t_norm ?_
        refine w_ret ?_
        refine t_ret ?_
        refine b_ret ?_
        refine t_ret ?_
        refine t_ret ?_
        refine b_ret ?_
        refine t_ret ?_
        refine ret1 rfl rfl (fun w' hm => ⟨?_, hm.base (by simp)⟩)
        rw [decide_eq_false (hne)]
      · simp only [hb46, hb45, hb31, decide_eq_true_eq, decide_eq_false_iff_not, Bool.and_eq_true, Bool.or_eq_true, Bool.and_eq_false_iff, Bool.or_eq_false_iff, Bool.not_eq_true', Bool.not_eq_false', ne_eq, Decidable.not_not] at hc46
        obtain ⟨htag, hlen2⟩ := hc46
        have hlen2 : (xs[k]).els.length = (ys[k]).els.length := by omega
        refine w_skip ?_
        refine t_norm ?_
        refine w_seq ?_
        refine rg_text ?_
        refine x_val rfl rfl rfl (v_assign rfl) ?_
        refine x_end ?_
        refine t_norm ?_
        refine w_block ?_
        refine w_loop (σ := Nat) (fun x => x ≤ (xs[k]).els.length ∧ (xs[k]).els.take x = (ys[k]).els.take x) (fun x => [(0, Value.slice (some ⟨b1, o1, none⟩) xs.length c1), (1, Value.slice (some ⟨b2, o2, none⟩) ys.length c2), (5, Value.int .i64 (k : Nat)), (6, Value.int .i64 (x : Nat))]) (fun x => []) (fun x => [(w, fun _ => True)]) (fun x => (xs[k]).els.length - x) (0) (⟨Nat.zero_le _, rfl⟩) (l_start (by repeat (first | exact Sub.nil | refine Sub.cons rfl ?_)) (fun _ h => h)) ?_
        rintro j ⟨hj, htj⟩
        refine w_state ([(0, Value.slice (some ⟨b1, o1, none⟩) xs.length c1), (1, Value.slice (some ⟨b2, o2, none⟩) ys.length c2), (5, Value.int .i64 (k : Nat)), (6, Value.int .i64 (j : Nat))]) ([]) ([(w, fun _ => True)]) ?_
        refine w_seq ?_
        refine w_seq ?_
        refine rg_text ?_
        refine x_val rfl rfl rfl (v_move rfl) ?_
        refine x_val rfl rfl rfl (v_move rfl) ?_
        refine x_val rfl rfl rfl (v_move rfl) ?_
        refine x_val rfl rfl rfl (v_indexAddr Tryd.underlying26 sz40 rfl rfl (by first | omega | (dsimp only; omega)) rfl) ?_
        refine x_val rfl rfl rfl (v_fieldAddr Tryd.underlying40 rfl sz38 (by decide) rfl rfl) ?_
        refine x_val rfl rfl rfl (v_load Tryd.underlying38 rfl rfl (at_ro (.head _) trivial hv1)) ?_
        refine x_val rfl rfl rfl (v_len_slice Tryd.underlying38 rfl) ?_
        refine x_bool rfl rfl rfl (v_lss rfl rfl) ?_
        intro b54 hb54
        refine x_end ?_
        refine t_norm ?_
        refine w_cond rfl (fun hc54 => ?_) (fun hc54 => ?_)
        · simp only [hb54, decide_eq_true_eq, decide_eq_false_iff_not, Bool.and_eq_true, Bool.or_eq_true, Bool.and_eq_false_iff, Bool.or_eq_false_iff, Bool.not_eq_true', Bool.not_eq_false', ne_eq, Decidable.not_not] at hc54
          have h3 : j < (xs[k]).els.length := by omega
          have h4 : j < (ys[k]).els.length := by omega
          obtain ⟨b3, o3, u3, hA3, _, hc3, hr3⟩ := sl_at hr1 h3
          obtain ⟨b4, o4, u4, hA4, _, hc4, hr4⟩ := sl_at hr2 h4
          subst hA3 hA4
          obtain ⟨A5, c5, rfl, hl5, hm5, _⟩ := id hr3
          obtain ⟨A6, c6, rfl, hl6, hm6, _⟩ := id hr4
          obtain ⟨f1, hf1⟩ : ∃ f, (xs[k]).els[j] = f := ⟨_, rfl⟩
          obtain ⟨f2, hf2⟩ : ∃ f, (ys[k]).els[j] = f := ⟨_, rfl⟩
          rw [hf1] at hr3 hc3 hl5 hm5
          rw [hf2] at hr4 hc4 hl6 hm6
          refine w_skip ?_
          refine t_norm ?_
          refine w_seq ?_
          refine w_block ?_
          refine w_seq ?_
          refine rg_text ?_
          refine x_val rfl rfl rfl (v_move rfl) ?_
          refine x_val rfl rfl rfl (v_move rfl) ?_
          refine x_val rfl rfl rfl (v_indexAddr Tryd.underlying26 sz40 rfl rfl (by first | omega | (dsimp only; omega)) rfl) ?_
          refine x_val rfl rfl rfl (v_fieldAddr Tryd.underlying40 rfl sz38 (by decide) rfl rfl) ?_
          refine x_val rfl rfl rfl (v_load Tryd.underlying38 rfl rfl (at_ro (.head _) trivial hv1)) ?_
          refine x_val rfl rfl rfl (v_move rfl) ?_
          refine x_val rfl rfl rfl (v_indexAddr Tryd.underlying38 sz25 rfl rfl (by first | omega | (dsimp only; omega)) rfl) ?_
          refine x_val rfl rfl rfl (v_load Tryd.underlying25 rfl rfl (at_ro (.head _) trivial (by rw [Nat.mul_one]; exact hc3))) ?_
          refine x_val rfl rfl rfl (v_assign rfl) ?_
          refine x_end ?_
          refine t_norm ?_
          refine w_seq ?_
          refine rg_text ?_
          refine x_val rfl rfl rfl (v_move rfl) ?_
          refine x_val rfl rfl rfl (v_move rfl) ?_
          refine x_val rfl rfl rfl (v_indexAddr Tryd.underlying26 sz40 rfl rfl (by first | omega | (dsimp only; omega)) rfl) ?_
          refine x_val rfl rfl rfl (v_fieldAddr Tryd.underlying40 rfl sz38 (by decide) rfl rfl) ?_
          refine x_val rfl rfl rfl (v_load Tryd.underlying38 rfl rfl (by first | exact at_ownL (.head _) rfl | exact at_ownL (.tail _ (.head _)) rfl | exact at_ownL (.tail _ (.tail _ (.head _))) rfl | (apply at_ownL; ((repeat (first | exact List.Mem.head _ | apply List.Mem.tail | apply List.mem_append_right))); rfl) | (refine at_ro (by first | exact .head _ | exact .tail _ (.head _) | exact .tail _ (.tail _ (.head _)) | simp) ?_ (by assumption); trivial))) ?_
          refine x_val rfl rfl rfl (v_move rfl) ?_
          refine x_val rfl rfl rfl (v_indexAddr Tryd.underlying38 sz25 rfl rfl (by first | omega | (dsimp only; omega)) rfl) ?_
          refine x_val rfl rfl rfl (v_load Tryd.underlying25 rfl rfl (at_ro (.head _) trivial (by rw [Nat.mul_one]; exact hc4))) ?_
          refine x_val rfl rfl rfl (v_assign rfl) ?_
          refine x_end ?_
          refine t_norm ?_
          refine w_seq ?_
          refine w_seq ?_
          refine rg_text ?_
          refine x_val rfl rfl rfl (v_move rfl) ?_
          refine x_val rfl rfl rfl (v_len_slice Tryd.underlying25 rfl) ?_
          refine x_val rfl rfl rfl (v_move rfl) ?_
          refine x_val rfl rfl rfl (v_len_slice Tryd.underlying25 rfl) ?_
          refine x_bool rfl rfl rfl (v_neq rfl rfl) ?_
          intro b77 hb77
          refine x_end ?_
          refine t_norm ?_
          refine w_cond rfl (fun hc77 => ?_) (fun hc77 => ?_)
          · simp only [hb77, decide_eq_true_eq, decide_eq_false_iff_not, Bool.and_eq_true, Bool.or_eq_true, Bool.and_eq_false_iff, Bool.or_eq_false_iff, Bool.not_eq_true', Bool.not_eq_false', ne_eq, Decidable.not_not] at hc77
            have hne : xs ≠ ys := ne_at h1 h2 (fun h => absurd (show (xs[k]).els = (ys[k]).els by rw [h]) (ne_at h3 h4 (fun h5 => by rw [hf1, hf2] at h5; rw [h5] at hc77; exact hc77 rfl)))
            refine w_seq ?_
            refine rg_text ?_
            refine x_val rfl rfl rfl (v_assign rfl) ?_
            refine x_end ?_
            refine t_norm ?_
            refine w_ret ?_
            refine t_ret ?_
            refine b_ret ?_
            refine t_ret ?_
            refine t_ret ?_
            refine b_ret ?_
            refine b_ret ?_
            refine t_ret ?_
            refine t_ret ?_
            refine b_ret ?_
            refine t_ret ?_
            refine ret1 rfl rfl (fun w' hm => ⟨?_, hm.base (by simp)⟩)
            rw [decide_eq_false (hne)]
          · simp only [hb77, decide_eq_true_eq, decide_eq_false_iff_not, Bool.and_eq_true, Bool.or_eq_true, Bool.and_eq_false_iff, Bool.or_eq_false_iff, Bool.not_eq_true', Bool.not_eq_false', ne_eq, Decidable.not_not] at hc77
            have hlen3 : f1.length = f2.length := by omega
            refine w_skip ?_
            refine t_norm ?_
            refine w_seq ?_
            refine rg_text ?_
            refine x_val rfl rfl rfl (v_assign rfl) ?_
            refine x_end ?_
            refine t_norm ?_
            refine w_block ?_
            refine w_loop (σ := Nat) (fun x => x ≤ f1.length ∧ f1.take x = f2.take x) (fun x => [(0, Value.slice (some ⟨b1, o1, none⟩) xs.length c1), (1, Value.slice (some ⟨b2, o2, none⟩) ys.length c2), (5, Value.int .i64 (k : Nat)), (6, Value.int .i64 (j : Nat)), (7, Value.slice A5 f1.length c5), (8, Value.slice A6 f2.length c6), (9, Value.int .i64 (x : Nat))]) (fun x => []) (fun x => [(w, fun _ => True)]) (fun x => f1.length - x) (0) (⟨Nat.zero_le _, rfl⟩) (l_start (by repeat (first | exact Sub.nil | refine Sub.cons rfl ?_)) (fun _ h => h)) ?_
            rintro i ⟨hi, hti⟩
            refine w_state ([(0, Value.slice (some ⟨b1, o1, none⟩) xs.length c1), (1, Value.slice (some ⟨b2, o2, none⟩) ys.length c2), (5, Value.int .i64 (k : Nat)), (6, Value.int .i64 (j : Nat)), (7, Value.slice A5 f1.length c5), (8, Value.slice A6 f2.length c6), (9, Value.int .i64 (i : Nat))]) ([]) ([(w, fun _ => True)]) ?_
            refine w_seq ?_
            refine w_seq ?_
            refine rg_text ?_
            refine x_val rfl rfl rfl (v_move rfl) ?_
            refine x_val rfl rfl rfl (v_move rfl) ?_
            refine x_val rfl rfl rfl (v_len_slice Tryd.underlying25 rfl) ?_
            refine x_bool rfl rfl rfl (v_lss rfl rfl) ?_
            intro b81 hb81
            refine x_end ?_
            refine t_norm ?_
            refine w_cond rfl (fun hc81 => ?_) (fun hc81 => ?_)
            · simp only [hb81, decide_eq_true_eq, decide_eq_false_iff_not, Bool.and_eq_true, Bool.or_eq_true, Bool.and_eq_false_iff, Bool.or_eq_false_iff, Bool.not_eq_true', Bool.not_eq_false', ne_eq, Decidable.not_not] at hc81
              have h5 : i < f1.length := by omega
              have h6 : i < f2.length := by omega
              obtain ⟨b5, o5, hA5, _, hc5, _⟩ := s_at hr3 h5
              obtain ⟨b6, o6, hA6, _, hc6, _⟩ := s_at hr4 h6
              subst hA5 hA6
              refine w_skip ?_
              refine t_norm ?_
              refine w_seq ?_
              refine w_block ?_
              refine w_seq ?_
              refine rg_draw 9 [(true, 0), (true, 1), (true, 2), (true, 3), (true, 4), (true, 5), (true, 6), (true, 7), (true, 8)] (by kernel_rfl) (by kernel_rfl) ?_
              refine x_val rfl rfl rfl (v_move rfl) ?_
              refine x_val rfl rfl rfl (v_move rfl) ?_
              refine x_val rfl rfl rfl (v_indexAddr Tryd.underlying25 sz9 rfl rfl (by first | omega | (dsimp only; omega)) rfl) ?_
              refine x_val rfl rfl rfl (v_load Tryd.underlying9 rfl rfl (at_ro (.head _) trivial (by rw [Nat.mul_one]; exact hc5))) ?_
              refine x_val rfl rfl rfl (v_move rfl) ?_
              refine x_val rfl rfl rfl (v_move rfl) ?_
              refine x_val rfl rfl rfl (v_indexAddr Tryd.underlying25 sz9 rfl rfl (by first | omega | (dsimp only; omega)) rfl) ?_
              refine x_val rfl rfl rfl (v_load Tryd.underlying9 rfl rfl (at_ro (.head _) trivial (by rw [Nat.mul_one]; exact hc6))) ?_
              refine x_bool rfl rfl rfl (v_sneq rfl rfl) ?_
              intro b92 hb92
              refine x_end ?_
              refine t_norm ?_
              refine w_cond rfl (fun hc92 => ?_) (fun hc92 => ?_)
              · simp only [hb92, decide_eq_true_eq, decide_eq_false_iff_not, Bool.and_eq_true, Bool.or_eq_true, Bool.and_eq_false_iff, Bool.or_eq_false_iff, Bool.not_eq_true', Bool.not_eq_false', ne_eq, Decidable.not_not] at hc92
                have hne : xs ≠ ys := ne_at h1 h2 (fun h => absurd (show (xs[k]).els = (ys[k]).els by rw [h]) (ne_at h3 h4 (fun h7 => by rw [hf1, hf2] at h7; exact (ne_at h5 h6 hc92) h7)))
                refine w_seq ?_
                refine rg_text ?_
                refine x_val rfl rfl rfl (v_assign rfl) ?_
                refine x_end ?_
                refine t_norm ?_
                refine w_ret ?_
                refine b_ret ?_
                refine t_ret ?_
                refine t_ret ?_
                refine b_ret ?_
                refine b_ret ?_
                refine t_ret ?_
                refine t_ret ?_
                refine b_ret ?_
                refine b_ret ?_
                refine t_ret ?_
                refine t_ret ?_
                refine b_ret ?_
                refine t_ret ?_
                refine ret1 rfl rfl (fun w' hm => ⟨?_, hm.base (by simp)⟩)
                rw [decide_eq_false (hne)]
              · simp only [hb92, decide_eq_true_eq, decide_eq_false_iff_not, Bool.and_eq_true, Bool.or_eq_true, Bool.and_eq_false_iff, Bool.or_eq_false_iff, Bool.not_eq_true', Bool.not_eq_false', ne_eq, Decidable.not_not] at hc92
                refine w_skip ?_
                refine b_norm ?_
                refine t_norm ?_
                refine rg_text ?_
                refine x_val rfl rfl rfl (v_move rfl) ?_
                refine x_val rfl rfl rfl (v_addi rfl rfl rfl (by first | omega | (dsimp only; omega))) ?_
                refine x_val rfl rfl rfl (v_assign rfl) ?_
                refine x_end ?_
                exact l_norm (i + 1) ⟨by omega, take_eq_succ h5 h6 hti hc92⟩ (by omega) (by repeat (first | exact Sub.nil | refine Sub.cons rfl ?_)) (fun _ h => h)
            · simp only [hb81, decide_eq_true_eq, decide_eq_false_iff_not, Bool.and_eq_true, Bool.or_eq_true, Bool.and_eq_false_iff, Bool.or_eq_false_iff, Bool.not_eq_true', Bool.not_eq_false', ne_eq, Decidable.not_not] at hc81
              obtain rfl : i = f1.length := by omega
              have hff : f1 = f2 := take_all hlen3 hti
              refine w_exit ?_
              refine t_exit ?_
              refine t_exit ?_
              refine b_hit ?_
              refine b_norm ?_
              refine t_norm ?_
              refine rg_text ?_
              refine x_val rfl rfl rfl (v_move rfl) ?_
              refine x_val rfl rfl rfl (v_addi rfl rfl rfl (by first | omega | (dsimp only; omega))) ?_
              refine x_val rfl rfl rfl (v_assign rfl) ?_
              refine x_end ?_
              exact l_norm (j + 1) ⟨by omega, take_eq_succ h3 h4 htj (by rw [hf1, hf2, hff])⟩ (by omega) (by repeat (first | exact Sub.nil | refine Sub.cons rfl ?_)) (fun _ h => h)
        · simp only [hb54, decide_eq_true_eq, decide_eq_false_iff_not, Bool.and_eq_true, Bool.or_eq_true, Bool.and_eq_false_iff, Bool.or_eq_false_iff, Bool.not_eq_true', Bool.not_eq_false', ne_eq, Decidable.not_not] at hc54
          obtain rfl : j = (xs[k]).els.length := by omega
          have hee : (xs[k]).els = (ys[k]).els := take_all hlen2 htj
          refine w_exit ?_
          refine t_exit ?_
          refine t_exit ?_
          refine b_hit ?_
          refine b_norm ?_
          refine t_norm ?_
          refine rg_text ?_
          refine x_val rfl rfl rfl (v_move rfl) ?_
          refine x_val rfl rfl rfl (v_addi rfl rfl rfl (by first | omega | (dsimp only; omega))) ?_
          refine x_val rfl rfl rfl (v_assign rfl) ?_
          refine x_end ?_
          exact l_norm (k + 1) ⟨by omega, take_eq_succ h1 h2 ht (seg_ext htag hee)⟩ (by omega) (by repeat (first | exact Sub.nil | refine Sub.cons rfl ?_)) (fun _ h => h)
    · simp only [hb18, decide_eq_false_iff_not] at hc18
      obtain rfl : k = xs.length := by omega
      refine w_exit ?_
      refine t_exit ?_
      refine t_exit ?_
      refine b_hit ?_
      refine t_norm ?_
      refine w_seq ?_
      refine rg_text ?_
      refine x_val rfl rfl rfl (v_assign rfl) ?_
      refine x_end ?_
      refine t_norm ?_
      refine w_ret ?_
      refine ret1 rfl rfl (fun w' hm => ⟨?_, hm.base (by simp)⟩)
      rw [decide_eq_true (take_all hlen ht)]

end Go.Proofs.YtbamklefagghcaaDoor

namespace Go.Proofs.YtbamklefagghcaaDoor
open Go.RowKit Go.PK
set_option linter.unusedVariables false
set_option linter.unusedSimpArgs false
set_option maxRecDepth 100000 in
theorem c_WS {l2 : List (Nat × Obj)} {ro : List Snap} {p : Nat} {pp : Value} {r : RowS} {bs : List UInt8} (w : World) (hm : Mem w ((bld2 66 5 p pp r (bs.length)) ++ l2) ro) (hp : ppOK p pp) (t : ByteArray) (hr : rowOK 1 r bs.length (byC bs)) (hl : bs.length ≤ 4000000000000) (ht : t.size ≤ 4000000000000) :
    Calls Tryd.prog 24 #[.pointer (some ⟨p, 0, none⟩), .string t] w fun e w' => e = .returned (.tuple #[.int .i64 (t.size : Nat), .nilIface]) ∧ ∃ r', rowOK 1 r' (bs ++ bl t).length (byC (bs ++ bl t)) ∧ Mem w' ((bld2 66 5 p (.pointer (some ⟨p, 0, none⟩)) r' ((bs ++ bl t).length)) ++ l2) ro := by
  refine enter_in hm (vs := [.pointer (some ⟨p, 0, none⟩), .string t]) Tryd.func24 rfl Tryd.ntmps24 rfl ?_
  refine w_seq ?_
  refine rg_text ?_
  refine x_val rfl rfl rfl (v_assign rfl) ?_
  refine x_val rfl rfl rfl (v_assign rfl) ?_
  refine x_end ?_
  refine t_norm ?_
  refine w_seq ?_
  refine rg_text ?_
  refine x_val rfl rfl rfl (v_move rfl) ?_
  refine x_turnf (τ := Unit) (v := .tuple #[]) (fun _ => True) (fun _ => (bld2 66 5 p (.pointer (some ⟨p, 0, none⟩)) r (bs.length)) ++ l2) rfl rfl Tryd.func43 (by kernel_rfl) rfl (fun w1 hw1 => by have hc := c_cc w1 hw1 hp; exact hc.mono fun e w2 h => ⟨h.1, (), trivial, h.2⟩) ?_
  intro _ _
  refine x_end ?_
  refine t_norm ?_
  refine w_seq ?_
  refine rg_text ?_
  refine x_val rfl rfl rfl (v_move rfl) ?_
  refine x_val rfl rfl rfl (v_move rfl) ?_
  refine x_val rfl rfl rfl (v_nilCheck rfl) ?_
  refine x_val rfl rfl rfl (v_fieldAddr (off' := 1) Tryd.underlying66 rfl sz24 (by decide) rfl rfl) ?_
  refine x_val rfl rfl rfl (v_load Tryd.underlying24 rfl rfl (at_ownL (vs := [(.pointer (some ⟨p, 0, none⟩)), rowV r bs.length]) (.head _) rfl)) ?_
  refine x_val rfl rfl rfl (v_move rfl) ?_
  refine x_append_str (e := 5) [(p, _)] (l2 := l2) r (len := bs.length) (xs := byC bs) rfl rfl rfl rfl rfl hr Tryd.underlying24 Tryd.underlying9 ap5 (by simp only [maxLen]; omega) (by omega) ?_
  intro r' hr'
  refine x_val rfl rfl rfl (v_nilCheck rfl) ?_
  refine x_val rfl rfl rfl (v_fieldAddr (off' := 1) Tryd.underlying66 rfl sz24 (by decide) rfl rfl) ?_
  refine x_store [] rfl rfl rfl rfl sz24 rfl (by show 2 ≤ 2; decide) ?_
  refine x_end ?_
  refine t_norm ?_
  refine w_seq ?_
  refine rg_text ?_
  refine x_val rfl rfl rfl (v_move rfl) ?_
  refine x_val rfl rfl rfl (v_len_str Tryd.underlying9 rfl) ?_
  refine x_val rfl rfl rfl (v_assign rfl) ?_
  refine x_val rfl rfl rfl (v_assign rfl) ?_
  refine x_end ?_
  refine t_norm ?_
  refine w_ret ?_
  refine ret2 rfl rfl rfl (fun w' hm' => ⟨rfl, r', ?_, ?_⟩)
  · rw [byC_app, List.length_append, bl_len]; exact hr'
  · rw [List.length_append, bl_len]; exact hm'
set_option maxRecDepth 100000 in
theorem c_rs1 (c : UInt8) (w : World) :
    Calls Tryd.prog 40 #[.int .u8 (c.toNat : Nat)] w fun e w' => e = .returned (.bool (!capB c)) ∧ Later w w' := by
  refine enter (vs := [.int .u8 (c.toNat : Nat)]) Tryd.func40 rfl Tryd.ntmps40 rfl ?_
  refine w_seq ?_
  refine rg_text ?_
  refine x_val rfl rfl rfl (v_assign rfl) ?_
  refine x_end ?_
  refine t_norm ?_
  refine w_seq ?_
  refine rg_text ?_
  refine x_val rfl rfl rfl (v_move rfl) ?_
  refine x_callb rfl rfl rfl Tryd.func36 (by kernel_rfl) rfl (fun w1 hw1 => c_capital _ w1) ?_
  intro b4 hb4
  refine x_bool rfl rfl rfl (v_not rfl) ?_
  intro b5 hb5
  refine x_val rfl rfl rfl (v_assign rfl) ?_
  refine x_end ?_
  refine t_norm ?_
  refine w_ret ?_
  refine ret1 rfl rfl (fun w' hm => ⟨?_, hm.base (by simp)⟩)
  rw [hb5, hb4]
set_option maxRecDepth 100000 in
theorem c_rs2 {v : Value} {xs : List ByteArray} {D : Nat → Prop} (w : World) (h : sliceRd tyStr D w v xs) :
    Calls Tryd.prog 42 #[v] w fun e w' => e = .returned (.bool (xs.isEmpty)) ∧ Later w w' := by
  obtain ⟨A, c, rfl, _, _, _⟩ := h
  refine enter (vs := [.slice A xs.length c]) Tryd.func42 rfl Tryd.ntmps42 rfl ?_
  refine w_seq ?_
  refine rg_text ?_
  refine x_val rfl rfl rfl (v_assign rfl) ?_
  refine x_end ?_
  refine t_norm ?_
  refine w_seq ?_
  refine rg_text ?_
  refine x_val rfl rfl rfl (v_move rfl) ?_
  refine x_val rfl rfl rfl (v_len_slice Tryd.underlying25 rfl) ?_
  refine x_bool rfl rfl rfl (v_eql rfl rfl) ?_
  intro b5 hb5
  refine x_val rfl rfl rfl (v_assign rfl) ?_
  refine x_end ?_
  refine t_norm ?_
  refine w_ret ?_
  refine ret1 rfl rfl (fun w' hm => ⟨?_, hm.base (by simp)⟩)
  rw [hb5]; cases xs <;> simp <;> omega
set_option maxRecDepth 100000 in
theorem c_IF1 {v : Value} {xs : List UInt8} {D : Nat → Prop} (w : World) (hxs : sliceRd tyB D w v xs) :
    Calls Tryd.prog 50 #[v, .func (.func 40) #[] #[]] w fun e w' => e = .returned (.int .i64 (fidx (fun c => !capB c) xs)) ∧ Later w w' := by
  obtain ⟨A, cp, rfl, hlc, hmx, hA⟩ := id hxs
  refine enter (vs := [.slice A xs.length cp, .func (.func 40) #[] #[]]) Tryd.func50 rfl Tryd.ntmps50 rfl ?_
  refine w_seq ?_
  refine rg_text ?_
  refine x_val rfl rfl rfl (v_assign rfl) ?_
  refine x_end ?_
  refine t_norm ?_
  refine w_seq ?_
  refine w_seq ?_
  refine rg_text ?_
  refine x_val rfl rfl rfl (v_move rfl) ?_
  refine x_val rfl rfl rfl (v_len_slice Tryd.underlying24 rfl) ?_
  refine x_val rfl rfl rfl (v_move rfl) ?_
  refine x_end ?_
  refine t_norm ?_
  refine w_block ?_
  refine w_loop (σ := Nat) (fun k => k ≤ xs.length ∧ ∀ j (h : j < xs.length), j < k → (fun c => !capB c) xs[j] = false) (fun k => [(0, .slice A xs.length cp), (1, .func (.func 40) #[] #[]), (7, Value.int .i64 xs.length), (8, Value.int .i64 (k : Nat))]) (fun k => []) (fun k => [(w, fun _ => True)]) (fun k => xs.length - k) (0) (⟨Nat.zero_le _, by intros; omega⟩) (l_start (by repeat (first | exact Sub.nil | refine Sub.cons rfl ?_)) (fun _ h => h)) ?_
  rintro k ⟨hk, hno⟩
  refine w_state ([(0, .slice A xs.length cp), (1, .func (.func 40) #[] #[]), (7, Value.int .i64 xs.length), (8, Value.int .i64 (k : Nat))]) ([]) ([(w, fun _ => True)]) ?_
  refine w_seq ?_
  refine rg_text ?_
  refine x_bool rfl rfl rfl (v_lss rfl rfl) ?_
  intro b9 hb9
  refine x_end ?_
  refine t_norm ?_
  refine w_seq ?_
  refine w_cond rfl (fun hc9 => ?_) (fun hc9 => ?_)
  · simp only [hb9, decide_eq_true_eq, decide_eq_false_iff_not, Bool.and_eq_true, Bool.or_eq_true, Bool.and_eq_false_iff, Bool.or_eq_false_iff, Bool.not_eq_true', Bool.not_eq_false', ne_eq, Decidable.not_not] at hc9
    have hkl : k < xs.length := by omega
    obtain ⟨b0, o0, hA0, hD0, hc0⟩ := b_at hxs hkl
    subst hA0
    refine w_skip ?_
    refine t_norm ?_
    refine w_seq ?_
    refine w_block ?_
    refine w_seq ?_
    refine rg_text ?_
    refine x_val rfl rfl rfl (v_move rfl) ?_
    refine x_val rfl rfl rfl (v_assign rfl) ?_
    refine x_end ?_
    refine t_norm ?_
    refine w_seq ?_
    refine rg_text ?_
    refine x_val rfl rfl rfl (v_move rfl) ?_
    refine x_val rfl rfl rfl (v_move rfl) ?_
    refine x_val rfl rfl rfl (v_move rfl) ?_
    refine x_val rfl rfl rfl (v_indexAddr Tryd.underlying24 sz5 rfl rfl (by first | omega | (dsimp only; omega)) rfl) ?_
    refine x_val rfl rfl rfl (v_load Tryd.underlying5 rfl rfl (at_ro (.head _) trivial (by rw [Nat.mul_one]; exact hc0))) ?_
    refine x_clb rfl rfl rfl rfl Tryd.func40 (by kernel_rfl) rfl (fun w1 hw1 => calls_cl (c_rs1 xs[k] w1)) ?_
    intro b16 hb16
    refine x_end ?_
    refine t_norm ?_
    refine w_cond rfl (fun hc16 => ?_) (fun hc16 => ?_)
    · have hb : (fun c => !capB c) xs[k] = true := hb16.symm.trans hc16
      refine w_seq ?_
      refine rg_text ?_
      refine x_val rfl rfl rfl (v_move rfl) ?_
      refine x_val rfl rfl rfl (v_assign rfl) ?_
      refine x_end ?_
      refine t_norm ?_
      refine w_ret ?_
      refine b_ret ?_
      refine t_ret ?_
      refine t_ret ?_
      refine b_ret ?_
      refine t_ret ?_
      refine ret1 rfl rfl (fun w' hm => ⟨?_, hm.base (by simp)⟩)
      rw [fidx_at hkl hb hno]
    · have hb : (fun c => !capB c) xs[k] = false := hb16.symm.trans hc16
      refine w_skip ?_
      refine b_norm ?_
      refine t_norm ?_
      refine rg_text ?_
      refine x_val rfl rfl rfl (v_addi rfl rfl rfl (by first | omega | (dsimp only; omega))) ?_
      refine x_val rfl rfl rfl (v_move rfl) ?_
      refine x_end ?_
      exact l_norm (k + 1) ⟨by omega, fun j h hjk => by rcases Nat.lt_succ_iff_lt_or_eq.1 hjk with h2 | rfl; (· exact hno j h h2); exact hb⟩ (by omega) (by repeat (first | exact Sub.nil | refine Sub.cons rfl ?_)) (fun _ h => h)
  · simp only [hb9, decide_eq_true_eq, decide_eq_false_iff_not, Bool.and_eq_true, Bool.or_eq_true, Bool.and_eq_false_iff, Bool.or_eq_false_iff, Bool.not_eq_true', Bool.not_eq_false', ne_eq, Decidable.not_not] at hc9
    refine w_exit ?_
    refine t_exit ?_
    refine t_exit ?_
    refine b_hit ?_
    refine t_norm ?_
    refine w_seq ?_
    refine rg_text ?_
    refine x_val rfl rfl rfl (v_assign rfl) ?_
    refine x_end ?_
    refine t_norm ?_
    refine w_ret ?_
    refine ret1 rfl rfl (fun w' hm => ⟨?_, hm.base (by simp)⟩)
    rw [fidx_none (fun j h => hno j h (by omega))]
set_option maxRecDepth 100000 in
theorem c_IF2 {v : Value} {xs : List (List ByteArray)} {D : Nat → Prop} (w : World) (hxs : sliceRd (tySlice tyStr) D w v xs) :
    Calls Tryd.prog 51 #[v, .func (.func 42) #[] #[]] w fun e w' => e = .returned (.int .i64 (fidx (List.isEmpty) xs)) ∧ Later w w' := by
  obtain ⟨A, cp, rfl, hlc, hmx, hA⟩ := id hxs
  refine enter (vs := [.slice A xs.length cp, .func (.func 42) #[] #[]]) Tryd.func51 rfl Tryd.ntmps51 rfl ?_
  refine w_seq ?_
  refine rg_text ?_
  refine x_val rfl rfl rfl (v_assign rfl) ?_
  refine x_end ?_
  refine t_norm ?_
  refine w_seq ?_
  refine w_seq ?_
  refine rg_text ?_
  refine x_val rfl rfl rfl (v_move rfl) ?_
  refine x_val rfl rfl rfl (v_len_slice Tryd.underlying38 rfl) ?_
  refine x_val rfl rfl rfl (v_move rfl) ?_
  refine x_end ?_
  refine t_norm ?_
  refine w_block ?_
  refine w_loop (σ := Nat) (fun k => k ≤ xs.length ∧ ∀ j (h : j < xs.length), j < k → (List.isEmpty) xs[j] = false) (fun k => [(0, .slice A xs.length cp), (1, .func (.func 42) #[] #[]), (7, Value.int .i64 xs.length), (8, Value.int .i64 (k : Nat))]) (fun k => []) (fun k => [(w, fun _ => True)]) (fun k => xs.length - k) (0) (⟨Nat.zero_le _, by intros; omega⟩) (l_start (by repeat (first | exact Sub.nil | refine Sub.cons rfl ?_)) (fun _ h => h)) ?_
  rintro k ⟨hk, hno⟩
  refine w_state ([(0, .slice A xs.length cp), (1, .func (.func 42) #[] #[]), (7, Value.int .i64 xs.length), (8, Value.int .i64 (k : Nat))]) ([]) ([(w, fun _ => True)]) ?_
  refine w_seq ?_
  refine rg_text ?_
  refine x_bool rfl rfl rfl (v_lss rfl rfl) ?_
  intro b9 hb9
  refine x_end ?_
  refine t_norm ?_
  refine w_seq ?_
  refine w_cond rfl (fun hc9 => ?_) (fun hc9 => ?_)
  · simp only [hb9, decide_eq_true_eq, decide_eq_false_iff_not, Bool.and_eq_true, Bool.or_eq_true, Bool.and_eq_false_iff, Bool.or_eq_false_iff, Bool.not_eq_true', Bool.not_eq_false', ne_eq, Decidable.not_not] at hc9
    have hkl : k < xs.length := by omega
    obtain ⟨b0, o0, v0, hA0, hD0, hc0, hr0⟩ := sl_at hxs hkl
    subst hA0
    obtain ⟨A1, c1, rfl, _, _, _⟩ := id hr0
    refine w_skip ?_
    refine t_norm ?_
    refine w_seq ?_
    refine w_block ?_
    refine w_seq ?_
    refine rg_text ?_
    refine x_val rfl rfl rfl (v_move rfl) ?_
    refine x_val rfl rfl rfl (v_assign rfl) ?_
    refine x_end ?_
    refine t_norm ?_
    refine w_seq ?_
    refine rg_text ?_
    refine x_val rfl rfl rfl (v_move rfl) ?_
    refine x_val rfl rfl rfl (v_move rfl) ?_
    refine x_val rfl rfl rfl (v_move rfl) ?_
    refine x_val rfl rfl rfl (v_indexAddr Tryd.underlying38 sz25 rfl rfl (by first | omega | (dsimp only; omega)) rfl) ?_
    refine x_val rfl rfl rfl (v_load Tryd.underlying25 rfl rfl (at_ro (.head _) trivial (by rw [Nat.mul_one]; exact hc0))) ?_
    refine x_clb rfl rfl rfl rfl Tryd.func42 (by kernel_rfl) rfl (fun w1 hw1 => calls_cl (c_rs2 w1 (hr0.keep (Kept.later (hw1.base (by simp)))))) ?_
    intro b16 hb16
    refine x_end ?_
    refine t_norm ?_
    refine w_cond rfl (fun hc16 => ?_) (fun hc16 => ?_)
    · have hb : (List.isEmpty) xs[k] = true := hb16.symm.trans hc16
      refine w_seq ?_
      refine rg_text ?_
      refine x_val rfl rfl rfl (v_move rfl) ?_
      refine x_val rfl rfl rfl (v_assign rfl) ?_
      refine x_end ?_
      refine t_norm ?_
      refine w_ret ?_
      refine b_ret ?_
      refine t_ret ?_
      refine t_ret ?_
      refine b_ret ?_
      refine t_ret ?_
      refine ret1 rfl rfl (fun w' hm => ⟨?_, hm.base (by simp)⟩)
      rw [fidx_at hkl hb hno]
    · have hb : (List.isEmpty) xs[k] = false := hb16.symm.trans hc16
      refine w_skip ?_
      refine b_norm ?_
      refine t_norm ?_
      refine rg_text ?_
      refine x_val rfl rfl rfl (v_addi rfl rfl rfl (by first | omega | (dsimp only; omega))) ?_
      refine x_val rfl rfl rfl (v_move rfl) ?_
      refine x_end ?_
      exact l_norm (k + 1) ⟨by omega, fun j h hjk => by rcases Nat.lt_succ_iff_lt_or_eq.1 hjk with h2 | rfl; (· exact hno j h h2); exact hb⟩ (by omega) (by repeat (first | exact Sub.nil | refine Sub.cons rfl ?_)) (fun _ h => h)
  · simp only [hb9, decide_eq_true_eq, decide_eq_false_iff_not, Bool.and_eq_true, Bool.or_eq_true, Bool.and_eq_false_iff, Bool.or_eq_false_iff, Bool.not_eq_true', Bool.not_eq_false', ne_eq, Decidable.not_not] at hc9
    refine w_exit ?_
    refine t_exit ?_
    refine t_exit ?_
    refine b_hit ?_
    refine t_norm ?_
    refine w_seq ?_
    refine rg_text ?_
    refine x_val rfl rfl rfl (v_assign rfl) ?_
    refine x_end ?_
    refine t_norm ?_
    refine w_ret ?_
    refine ret1 rfl rfl (fun w' hm => ⟨?_, hm.base (by simp)⟩)
    rw [fidx_none (fun j h => hno j h (by omega))]
set_option maxRecDepth 100000 in
theorem c_CF1 {v : Value} {xs : List UInt8} {D : Nat → Prop} (w : World) (hxs : sliceRd tyB D w v xs) :
    Calls Tryd.prog 39 #[v, .func (.func 40) #[] #[]] w fun e w' => e = .returned (.bool (xs.any (fun c => !capB c))) ∧ Later w w' := by
  refine enter (vs := [v, .func (.func 40) #[] #[]]) Tryd.func39 rfl Tryd.ntmps39 rfl ?_
  refine w_seq ?_
  refine rg_text ?_
  refine x_val rfl rfl rfl (v_assign rfl) ?_
  refine x_end ?_
  refine t_norm ?_
  refine w_seq ?_
  refine rg_text ?_
  refine x_val rfl rfl rfl (v_move rfl) ?_
  refine x_val rfl rfl rfl (v_move rfl) ?_
  refine x_callv rfl rfl rfl Tryd.func50 (by kernel_rfl) rfl (fun w1 hw1 => c_IF1 w1 (hxs.keep (Kept.later (hw1.base (by simp))))) ?_
  refine x_bool rfl rfl rfl (v_geq rfl rfl) ?_
  intro b8 hb8
  refine x_val rfl rfl rfl (v_assign rfl) ?_
  refine x_end ?_
  refine t_norm ?_
  refine w_ret ?_
  refine ret1 rfl rfl (fun w' hm => ⟨?_, hm.base (by simp)⟩)
  rw [hb8, Bool.eq_iff_iff.2 (decide_eq_true_iff.trans (fidx_nn _ xs))]
set_option maxRecDepth 100000 in
theorem c_CF2 {v : Value} {xs : List (List ByteArray)} {D : Nat → Prop} (w : World) (hxs : sliceRd (tySlice tyStr) D w v xs) :
    Calls Tryd.prog 41 #[v, .func (.func 42) #[] #[]] w fun e w' => e = .returned (.bool (xs.any (List.isEmpty))) ∧ Later w w' := by
  refine enter (vs := [v, .func (.func 42) #[] #[]]) Tryd.func41 rfl Tryd.ntmps41 rfl ?_
  refine w_seq ?_
  refine rg_text ?_
  refine x_val rfl rfl rfl (v_assign rfl) ?_
  refine x_end ?_
  refine t_norm ?_
  refine w_seq ?_
  refine rg_text ?_
  refine x_val rfl rfl rfl (v_move rfl) ?_
  refine x_val rfl rfl rfl (v_move rfl) ?_
  refine x_callv rfl rfl rfl Tryd.func51 (by kernel_rfl) rfl (fun w1 hw1 => c_IF2 w1 (hxs.keep (Kept.later (hw1.base (by simp))))) ?_
  refine x_bool rfl rfl rfl (v_geq rfl rfl) ?_
  intro b8 hb8
  refine x_val rfl rfl rfl (v_assign rfl) ?_
  refine x_end ?_
  refine t_norm ?_
  refine w_ret ?_
  refine ret1 rfl rfl (fun w' hm => ⟨?_, hm.base (by simp)⟩)
  rw [hb8, Bool.eq_iff_iff.2 (decide_eq_true_iff.trans (fidx_nn _ xs))]
set_option maxRecDepth 100000 in
theorem c_rseg3 {x : Seg} {v : Value} {D : Nat → Prop} (w : World) (hv : sliceRd (tySlice tyStr) D w v x.els) (h3 : x.tag.size = 3) :
    Calls Tryd.prog 23 #[.agg #[.string x.tag, v]] w fun e w' => e = .returned (.bool (rightSg x)) ∧ Later w w' := by
  obtain ⟨A, cp, rfl, hlc, hmx, hA⟩ := id hv
  refine enter (vs := [.agg #[.string x.tag, .slice A x.els.length cp]]) Tryd.func23 rfl Tryd.ntmps23 rfl ?_
  refine w_seq ?_
  refine rg_text ?_
  refine x_box rfl rfl rfl rfl ?_
  intro p1
  refine x_val rfl rfl rfl (v_assign rfl) ?_
  refine x_end ?_
  refine t_norm ?_
  refine w_seq ?_
  refine w_seq ?_
  refine rg_text ?_
  refine x_val rfl rfl rfl (v_fieldAddr (off' := 0) Tryd.underlying40 rfl sz9 (by decide) rfl rfl) ?_
  refine x_val rfl rfl rfl (v_load Tryd.underlying9 rfl rfl (at_ownL (vs := [Value.string x.tag, .slice A x.els.length cp]) (.head _) rfl)) ?_
  refine x_val rfl rfl rfl (v_len_str Tryd.underlying9 rfl) ?_
  refine x_bool rfl rfl rfl (v_neq rfl rfl) ?_
  intro b6 hb6
  obtain rfl : b6 = false := by rw [hb6]; exact decide_eq_false (by omega)
  refine x_val rfl rfl rfl (v_move rfl) ?_
  refine x_go rfl rfl rfl rfl rfl (v_fieldAddr (off' := 0) Tryd.underlying40 rfl sz9 (by decide) rfl rfl) ?_
  refine x_go rfl rfl rfl rfl rfl (v_load Tryd.underlying9 rfl rfl (at_ownL (vs := [Value.string x.tag, .slice A x.els.length cp]) (.head _) rfl)) ?_
  refine x_bytes_g (e := 5) rfl rfl rfl rfl rfl Tryd.underlying9 Tryd.underlying24 Tryd.underlying5 rfl ?_
  intro p10 c10 cs10 fz10 hc10 ht10
  refine x_call_ifb [] rfl rfl rfl rfl rfl Tryd.func39 (by kernel_rfl) (fun hg => ⟨_, rfl, fun w1 hw1 => c_CF1 (xs := bl x.tag) (D := fun _ => True) w1 (bytes_rd (hw1.own_at (p10, _) (.head _)) (bl_len _).symm ht10 hc10 (by omega) trivial)⟩) ?_
  intro b11 hb11
  refine x_bool rfl rfl rfl (v_or rfl rfl) ?_
  intro b12 hb12
  refine x_end ?_
  refine t_norm ?_
  refine w_cond rfl (fun hc12 => ?_) (fun hc12 => ?_)
  · rw [hb12, hb11] at hc12
    refine w_seq ?_
    refine rg_text ?_
    refine x_val rfl rfl rfl (v_assign rfl) ?_
    refine x_end ?_
    refine t_norm ?_
    refine w_ret ?_
    refine t_ret ?_
    refine ret1 rfl rfl (fun w' hm => ⟨?_, hm.base (by simp)⟩)
    unfold rightSg; rw [Bool.false_or] at hc12; rw [hc12, decide_eq_true h3]; rfl
  · rw [hb12, hb11] at hc12
    refine w_skip ?_
    refine t_norm ?_
    refine w_seq ?_
    refine rg_text ?_
    refine x_val rfl rfl rfl (v_fieldAddr (off' := 1) Tryd.underlying40 rfl sz38 (by decide) rfl rfl) ?_
    refine x_val rfl rfl rfl (v_load Tryd.underlying38 rfl rfl (at_ownL (vs := [Value.string x.tag, .slice A x.els.length cp]) (.tail _ (.head _)) rfl)) ?_
    refine x_callb rfl rfl rfl Tryd.func41 (by kernel_rfl) rfl (fun w1 hw1 => c_CF2 w1 (hv.keep (Kept.later (hw1.base (by simp))))) ?_
    intro b15 hb15
    refine x_bool rfl rfl rfl (v_not rfl) ?_
    intro b16 hb16
    refine x_val rfl rfl rfl (v_assign rfl) ?_
    refine x_end ?_
    refine t_norm ?_
    refine w_ret ?_
    refine ret1 rfl rfl (fun w' hm => ⟨?_, hm.base (by simp)⟩)
    unfold rightSg; rw [Bool.false_or] at hc12; rw [hc12, decide_eq_true h3, hb16, hb15]; rfl
set_option maxRecDepth 100000 in
theorem c_rsegN {x : Seg} {v : Value} {D : Nat → Prop} (w : World) (hv : sliceRd (tySlice tyStr) D w v x.els) (h3 : ¬x.tag.size = 3) :
    Calls Tryd.prog 23 #[.agg #[.string x.tag, v]] w fun e w' => e = .returned (.bool (rightSg x)) ∧ Later w w' := by
  obtain ⟨A, cp, rfl, hlc, hmx, hA⟩ := id hv
  refine enter (vs := [.agg #[.string x.tag, .slice A x.els.length cp]]) Tryd.func23 rfl Tryd.ntmps23 rfl ?_
  refine w_seq ?_
  refine rg_text ?_
  refine x_box rfl rfl rfl rfl ?_
  intro p1
  refine x_val rfl rfl rfl (v_assign rfl) ?_
  refine x_end ?_
  refine t_norm ?_
  refine w_seq ?_
  refine w_seq ?_
  refine rg_text ?_
  refine x_val rfl rfl rfl (v_fieldAddr (off' := 0) Tryd.underlying40 rfl sz9 (by decide) rfl rfl) ?_
  refine x_val rfl rfl rfl (v_load Tryd.underlying9 rfl rfl (at_ownL (vs := [Value.string x.tag, .slice A x.els.length cp]) (.head _) rfl)) ?_
  refine x_val rfl rfl rfl (v_len_str Tryd.underlying9 rfl) ?_
  refine x_bool rfl rfl rfl (v_neq rfl rfl) ?_
  intro b6 hb6
  obtain rfl : b6 = true := by rw [hb6]; exact decide_eq_true (by omega)
  refine x_val rfl rfl rfl (v_move rfl) ?_
  refine x_no rfl rfl rfl rfl rfl ?_
  refine x_no rfl rfl rfl rfl rfl ?_
  refine x_no rfl rfl rfl rfl rfl ?_
  refine x_no rfl rfl rfl rfl rfl ?_
  refine x_val (v := .bool true) rfl rfl rfl (v_pick (b := true) rfl rfl) ?_
  refine x_end ?_
  refine t_norm ?_
  refine w_cond rfl (fun hc12 => ?_) (fun hc12 => ?_)
  · skip
    refine w_seq ?_
    refine rg_text ?_
    refine x_val rfl rfl rfl (v_assign rfl) ?_
    refine x_end ?_
    refine t_norm ?_
    refine w_ret ?_
    refine t_ret ?_
    refine ret1 rfl rfl (fun w' hm => ⟨?_, hm.base (by simp)⟩)
    unfold rightSg; rw [decide_eq_false h3]; rfl
  · cases hc12
theorem c_rseg {x : Seg} {v : Value} {D : Nat → Prop} (w : World) (hv : sliceRd (tySlice tyStr) D w v x.els) :
    Calls Tryd.prog 23 #[.agg #[.string x.tag, v]] w fun e w' => e = .returned (.bool (rightSg x)) ∧ Later w w' := by
  by_cases h3 : x.tag.size = 3
  · exact c_rseg3 w hv h3
  · exact c_rsegN w hv h3

end Go.Proofs.YtbamklefagghcaaDoor

namespace Go.Proofs.YtbamklefagghcaaDoor
open Go.RowKit Go.PK
set_option linter.unusedVariables false
set_option linter.unusedSimpArgs false
set_option maxRecDepth 100000 in
theorem c_Write {v : Value} {l : List Seg} {D : Nat → Prop} (w : World) (hl : sliceRd tySeg D w v l) (hT : (wrT l).length ≤ 2000000000000) :
    Calls Tryd.prog 11 #[v] w fun e w' => e = .returned (.tuple #[.string (wrR l).1, .int .i64 (wrR l).2]) ∧ Later w w' := by
  obtain ⟨A, cp, rfl, hlc, hmx, _⟩ := id hl
  refine enter (vs := [.slice A l.length cp]) Tryd.func11 rfl Tryd.ntmps11 rfl ?_
  refine w_seq ?_
  refine rg_text ?_
  refine x_val rfl rfl rfl (v_assign rfl) ?_
  refine x_val rfl rfl rfl (v_assign rfl) ?_
  refine x_end ?_
  refine t_norm ?_
  refine w_seq ?_
  refine w_seq ?_
  refine rg_text ?_
  refine x_val rfl rfl rfl (v_move rfl) ?_
  refine x_val rfl rfl rfl (v_len_slice Tryd.underlying26 rfl) ?_
  refine x_bool rfl rfl rfl (v_gtr rfl rfl) ?_
  intro b16 hb16
  refine x_end ?_
  refine t_norm ?_
  refine w_cond rfl (fun hc16 => ?_) (fun hc16 => ?_)
  · simp only [hb16, decide_eq_true_eq, decide_eq_false_iff_not, Bool.and_eq_true, Bool.or_eq_true, Bool.and_eq_false_iff, Bool.or_eq_false_iff, Bool.not_eq_true', Bool.not_eq_false', ne_eq, Decidable.not_not] at hc16
    have hmany : l.length > 10000 := by omega
    refine w_seq ?_
    refine rg_text ?_
    refine x_val rfl rfl rfl (v_assign rfl) ?_
    refine x_val rfl rfl rfl (v_assign rfl) ?_
    refine x_end ?_
    refine t_norm ?_
    refine w_ret ?_
    refine t_ret ?_
    refine ret2 rfl rfl rfl (fun w' hm' => ⟨?_, hm'.base (by simp)⟩)
    rw [wrR_many hmany]
  · simp only [hb16, decide_eq_false_iff_not] at hc16
    have hmany : ¬l.length > 10000 := by omega
    refine w_skip ?_
    refine t_norm ?_
    refine w_seq ?_
    refine rg_text ?_
    refine x_callv rfl rfl rfl Tryd.func22 (by kernel_rfl) rfl (fun w1 hw1 => c_usual w1) ?_
    refine x_alloc rfl rfl rfl zr52 ?_
    intro p4
    refine x_store0 [] rfl rfl rfl rfl sz52 rfl rfl ?_
    refine x_end ?_
    refine t_norm ?_
    refine w_seq ?_
    refine rg_text ?_
    refine x_alloc rfl rfl rfl zr66 ?_
    intro p5
    refine x_end ?_
    refine t_norm ?_
    refine w_seq ?_
    refine w_seq ?_
    refine rg_text ?_
    refine x_val rfl rfl rfl (v_move rfl) ?_
    refine x_val rfl rfl rfl (v_len_slice Tryd.underlying26 rfl) ?_
    refine x_val rfl rfl rfl (v_move rfl) ?_
    refine x_end ?_
    refine t_norm ?_
    refine w_block ?_
    refine w_loop (σ := Nat × List UInt8 × Value × RowS) (fun x => x.1 ≤ l.length ∧ x.2.1 ++ wrT (l.drop x.1) = wrT l ∧ ppOK p5 x.2.2.1 ∧ rowOK 1 x.2.2.2 x.2.1.length (byC x.2.1) ∧ ∀ j (h : j < l.length), j < x.1 → goodW j l[j]) (fun x => [(4, Value.pointer (some ⟨p4, 0, none⟩)), (5, Value.pointer (some ⟨p5, 0, none⟩)), (18, Value.slice A l.length cp), (19, Value.int .i64 (l.length : Nat)), (20, Value.int .i64 (x.1 : Nat))]) (fun x => bld2 66 5 p5 x.2.2.1 x.2.2.2 (x.2.1).length ++ [(p4, Obj.cells usualG.cells.toArray 52)]) (fun x => [(w, fun _ => True)]) (fun x => l.length - x.1) ((0, [], .pointer none, none)) (⟨Nat.zero_le _, rfl, .inl rfl, rowOK_nil, fun j h hj => by omega⟩) (l_start (by repeat (first | exact Sub.nil | refine Sub.cons rfl ?_)) (fun _ h => h)) ?_
    rintro ⟨k, bs, pp, r⟩ ⟨hk, hB, hp, hr, hgood⟩
    refine w_state ([(4, Value.pointer (some ⟨p4, 0, none⟩)), (5, Value.pointer (some ⟨p5, 0, none⟩)), (18, Value.slice A l.length cp), (19, Value.int .i64 (l.length : Nat)), (20, Value.int .i64 (k : Nat))]) (bld2 66 5 p5 pp r (bs).length ++ [(p4, Obj.cells usualG.cells.toArray 52)]) ([(w, fun _ => True)]) ?_
    dsimp only at hk hB hp hr hgood
    have hlen := len_le hB hT
    refine w_seq ?_
    refine rg_text ?_
    refine x_bool rfl rfl rfl (v_lss rfl rfl) ?_
    intro b21 hb21
    refine x_end ?_
    refine t_norm ?_
    refine w_seq ?_
    refine w_cond rfl (fun hc21 => ?_) (fun hc21 => ?_)
    · simp only [hb21, decide_eq_true_eq, decide_eq_false_iff_not, Bool.and_eq_true, Bool.or_eq_true, Bool.and_eq_false_iff, Bool.or_eq_false_iff, Bool.not_eq_true', Bool.not_eq_false', ne_eq, Decidable.not_not] at hc21
      have hkl : k < l.length := by omega
      obtain ⟨b1, o1, u1, hA1, _, ht1, hv1, hk1, hr1⟩ := seg_at hl hkl
      obtain ⟨A7, c7, rfl, hl7, hm7, _⟩ := id hr1
      refine w_skip ?_
      refine t_norm ?_
      refine w_seq ?_
      refine w_block ?_
      refine w_seq ?_
      refine rg_text ?_
      refine x_val rfl rfl rfl (v_move rfl) ?_
      refine x_val rfl rfl rfl (v_indexAddr Tryd.underlying26 sz40 (congrArg (fun A => some (Value.slice A l.length cp)) hA1) rfl (by first | omega | (dsimp only; omega)) rfl) ?_
      refine x_val rfl rfl rfl (v_loadN (vs := [Value.string l[k].tag, .slice A7 l[k].els.length c7]) Tryd.underlying40 rfl sz40 rfl (fun i hi => by match i, hi with | 0, _ => exact at_ro (.head _) trivial ht1 | 1, _ => exact at_ro (.head _) trivial hv1)) ?_
      refine x_alloc rfl rfl rfl zr40 ?_
      intro p7
      refine x_val rfl rfl rfl (v_assign rfl) ?_
      refine x_store0 [] rfl rfl rfl rfl sz40 rfl rfl ?_
      refine x_end ?_
      refine t_norm ?_
      refine w_seq ?_
      refine w_seq ?_
      refine x_memW (own' := bld2 66 5 p5 pp r (bs).length ++ [(p7, Obj.cells [Value.string l[k].tag, .slice A7 l[k].els.length c7].toArray 40), (p4, Obj.cells usualG.cells.toArray 52)]) (fun w1 h => h.perm (by exact (List.perm_middle (a := (p7, Obj.cells [Value.string l[k].tag, .slice A7 l[k].els.length c7].toArray 40)) (l₁ := bld2 66 5 p5 pp r (bs).length) (l₂ := [(p4, Obj.cells usualG.cells.toArray 52)])).symm)) ?_
      refine rg_text ?_
      refine x_val rfl rfl rfl (v_load_blk (e := 40) (fz := (0, 0)) (cs := [Value.string l[k].tag, .slice A7 l[k].els.length c7].toArray) Tryd.underlying40 rfl rfl (List.mem_append_right _ (.head _)) sz40) ?_
      refine x_callb rfl rfl rfl Tryd.func23 (by kernel_rfl) rfl (fun w1 hw1 => c_rseg (x := l[k]) w1 (hr1.keep (Kept.later (hw1.base (by simp))))) ?_
      intro b26 hb26
      refine x_bool rfl rfl rfl (v_not rfl) ?_
      intro b27 hb27
      refine x_val rfl rfl rfl (v_move rfl) ?_
      refine x_if [] rfl rfl rfl rfl rfl (fun hg => by obtain ⟨hg0, _⟩ := hg; subst hg0; (try simp only [List.cons_append, List.nil_append, gvl_nil, gvl_t, gvl_f]); exact v_move rfl) ?_
      refine x_ifb [] rfl rfl rfl rfl rfl (fun hg => by obtain ⟨hg0, _⟩ := hg; subst hg0; (try simp only [List.cons_append, List.nil_append, gvl_nil, gvl_t, gvl_f]); exact v_eql rfl rfl) ?_
      intro b30 hb30
      refine x_if [] rfl rfl rfl rfl rfl (fun hg => by obtain ⟨hg0, _⟩ := hg; subst hg0; (try simp only [List.cons_append, List.nil_append, gvl_nil, gvl_t, gvl_f]); exact v_move rfl) ?_
      refine x_if [(b27, false)] rfl rfl rfl rfl rfl (fun hg => by obtain ⟨hg0, hg1, _⟩ := hg; subst hg0; subst hg1; (try simp only [List.cons_append, List.nil_append, gvl_nil, gvl_t, gvl_f]); exact v_fieldAddr (off' := 0) Tryd.underlying40 rfl sz9 (by decide) rfl rfl) ?_
      refine x_if [(b27, false)] rfl rfl rfl rfl rfl (fun hg => by obtain ⟨hg0, hg1, _⟩ := hg; subst hg0; subst hg1; (try simp only [List.cons_append, List.nil_append, gvl_nil, gvl_t, gvl_f]); exact v_load Tryd.underlying9 rfl rfl (at_ownL (vs := [Value.string l[k].tag, .slice A7 l[k].els.length c7]) (List.mem_append_right _ (.head _)) rfl)) ?_
      refine x_ifb [(b27, false)] rfl rfl rfl rfl rfl (fun hg => by obtain ⟨hg0, hg1, _⟩ := hg; subst hg0; subst hg1; (try simp only [List.cons_append, List.nil_append, gvl_nil, gvl_t, gvl_f]); exact v_seql rfl rfl) ?_
      intro b34 hb34
      refine x_ifb [] rfl rfl rfl rfl rfl (fun hg => by obtain ⟨hg0, _⟩ := hg; subst hg0; (try simp only [List.cons_append, List.nil_append, gvl_nil, gvl_t, gvl_f]); exact v_and rfl rfl) ?_
      intro b35 hb35
      refine x_bool rfl rfl rfl (v_or rfl rfl) ?_
      intro b36 hb36
      refine x_end ?_
      refine t_norm ?_
      refine w_cond rfl (fun hc36 => ?_) (fun hc36 => ?_)
      · simp only [hb36, hb35, hb34, hb30, hb27, hb26, decide_eq_true_eq, decide_eq_false_iff_not, Bool.and_eq_true, Bool.or_eq_true, Bool.and_eq_false_iff, Bool.or_eq_false_iff, Bool.not_eq_true', Bool.not_eq_false', ne_eq, Decidable.not_not] at hc36
        have hbad : ¬goodW k l[k] := fun ⟨h1, h2⟩ => by rcases hc36 with h | h; (· rw [h1] at h; cases h); exact h2 ⟨by omega, h.2⟩
        refine w_seq ?_
        refine rg_text ?_
        refine x_val rfl rfl rfl (v_assign rfl) ?_
        refine x_val rfl rfl rfl (v_assign rfl) ?_
        refine x_end ?_
        refine t_norm ?_
        refine w_ret ?_
        refine t_ret ?_
        refine b_ret ?_
        refine t_ret ?_
        refine t_ret ?_
        refine b_ret ?_
        refine t_ret ?_
        refine ret2 rfl rfl rfl (fun w' hm' => ⟨?_, hm'.base (by simp)⟩)
        rw [wrR_bad hmany hkl hbad]
      · simp only [hb36, hb35, hb34, hb30, hb27, hb26, decide_eq_true_eq, decide_eq_false_iff_not, Bool.and_eq_true, Bool.or_eq_true, Bool.and_eq_false_iff, Bool.or_eq_false_iff, Bool.not_eq_true', Bool.not_eq_false', ne_eq, Decidable.not_not] at hc36
        have hgk : goodW k l[k] := ⟨hc36.1, fun h => by rcases hc36.2 with h2 | h2; (· exact h2 (by omega)); exact h2 h.2⟩
        have ht3 := rightSg_tag hgk.1
        refine w_skip ?_
        refine t_norm ?_
        refine w_seq ?_
        refine rg_text ?_
        refine x_val rfl rfl rfl (v_fieldAddr (off' := 0) Tryd.underlying40 rfl sz9 (by decide) rfl rfl) ?_
        refine x_val rfl rfl rfl (v_load Tryd.underlying9 rfl rfl (at_ownL (vs := [Value.string l[k].tag, .slice A7 l[k].els.length c7]) (List.mem_append_right _ (.head _)) rfl)) ?_
        refine x_turnf (τ := RowS) (v := .tuple #[.int .i64 (l[k].tag.size : Nat), .nilIface]) (fun r' => rowOK 1 r' (bs ++ bl l[k].tag).length (byC (bs ++ bl l[k].tag))) (fun r' => bld2 66 5 p5 (.pointer (some ⟨p5, 0, none⟩)) r' (bs ++ bl l[k].tag).length ++ [(p7, Obj.cells [Value.string l[k].tag, .slice A7 l[k].els.length c7].toArray 40), (p4, Obj.cells usualG.cells.toArray 52)]) rfl rfl Tryd.func24 (by kernel_rfl) rfl (fun w1 hw1 => (c_WS (bs := bs) w1 hw1 hp l[k].tag hr (by omega) (by omega)).mono fun e w2 ⟨h1, r', h2, h3⟩ => ⟨h1, r', h2, h3⟩) ?_
        intro r' hr'
        refine x_end ?_
        refine t_norm ?_
        refine w_seq ?_
        refine w_seq ?_
        refine rg_text ?_
        refine x_val rfl rfl rfl (v_fieldAddr (off' := 1) Tryd.underlying40 rfl sz38 (by decide) rfl rfl) ?_
        refine x_val rfl rfl rfl (v_load Tryd.underlying38 rfl rfl (at_ownL (vs := [Value.string l[k].tag, .slice A7 l[k].els.length c7]) (List.mem_append_right _ (.head _)) rfl)) ?_
        refine x_val rfl rfl rfl (v_len_slice Tryd.underlying38 rfl) ?_
        refine x_val rfl rfl rfl (v_move rfl) ?_
        refine x_end ?_
        refine t_norm ?_
        refine w_block ?_
        refine w_loop (σ := Nat × List UInt8 × RowS) (fun x => x.1 ≤ l[k].els.length ∧ x.2.1 ++ ((l[k].els.drop x.1).flatMap (elT 43) ++ ([39] ++ wrT (l.drop (k + 1)))) = wrT l ∧ rowOK 1 x.2.2 x.2.1.length (byC x.2.1)) (fun x => [(4, Value.pointer (some ⟨p4, 0, none⟩)), (5, Value.pointer (some ⟨p5, 0, none⟩)), (18, Value.slice A l.length cp), (19, Value.int .i64 (l.length : Nat)), (20, Value.int .i64 (k : Nat)), (41, Value.slice A7 l[k].els.length c7), (42, Value.int .i64 (l[k].els.length : Nat)), (43, Value.int .i64 (x.1 : Nat))]) (fun x => bld2 66 5 p5 (.pointer (some ⟨p5, 0, none⟩)) x.2.2 (x.2.1).length ++ [(p7, Obj.cells [Value.string l[k].tag, .slice A7 l[k].els.length c7].toArray 40), (p4, Obj.cells usualG.cells.toArray 52)]) (fun x => [(w, fun _ => True)]) (fun x => l[k].els.length - x.1) ((0, bs ++ bl l[k].tag, r')) (⟨Nat.zero_le _, by dsimp only; rw [List.drop_zero, List.append_assoc, ← wrT_drop hkl]; exact hB, hr'⟩) (l_start (by repeat (first | exact Sub.nil | refine Sub.cons rfl ?_)) (fun _ h => h)) ?_
        rintro ⟨j, bs, r⟩ ⟨hj, hB, hr⟩
        refine w_state ([(4, Value.pointer (some ⟨p4, 0, none⟩)), (5, Value.pointer (some ⟨p5, 0, none⟩)), (18, Value.slice A l.length cp), (19, Value.int .i64 (l.length : Nat)), (20, Value.int .i64 (k : Nat)), (41, Value.slice A7 l[k].els.length c7), (42, Value.int .i64 (l[k].els.length : Nat)), (43, Value.int .i64 (j : Nat))]) (bld2 66 5 p5 (.pointer (some ⟨p5, 0, none⟩)) r (bs).length ++ [(p7, Obj.cells [Value.string l[k].tag, .slice A7 l[k].els.length c7].toArray 40), (p4, Obj.cells usualG.cells.toArray 52)]) ([(w, fun _ => True)]) ?_
        dsimp only at hj hB hr
        have hlen := len_le hB hT
        refine w_seq ?_
        refine rg_text ?_
        refine x_bool rfl rfl rfl (v_lss rfl rfl) ?_
        intro b44 hb44
        refine x_end ?_
        refine t_norm ?_
        refine w_seq ?_
        refine w_cond rfl (fun hc44 => ?_) (fun hc44 => ?_)
        · simp only [hb44, decide_eq_true_eq, decide_eq_false_iff_not, Bool.and_eq_true, Bool.or_eq_true, Bool.and_eq_false_iff, Bool.or_eq_false_iff, Bool.not_eq_true', Bool.not_eq_false', ne_eq, Decidable.not_not] at hc44
          have hjl : j < l[k].els.length := by omega
          obtain ⟨b2, o2, u2, hA2, _, hc2, hr2⟩ := sl_at hr1 hjl
          obtain ⟨A8, c8, rfl, hl8, hm8, _⟩ := id hr2
          obtain ⟨ee, hee⟩ : ∃ ee, l[k].els[j] = ee := ⟨_, rfl⟩
          rw [hee] at hr2 hc2 hl8 hm8
          refine w_skip ?_
          refine t_norm ?_
          refine w_seq ?_
          refine w_block ?_
          refine w_seq ?_
          refine rg_text ?_
          refine x_val rfl rfl rfl (v_indexAddr Tryd.underlying38 sz25 (congrArg (fun A => some (Value.slice A l[k].els.length c7)) hA2) rfl (by first | omega | (dsimp only; omega)) rfl) ?_
          refine x_val rfl rfl rfl (v_load Tryd.underlying25 rfl rfl (at_ro (.head _) trivial (by rw [Nat.mul_one]; exact hc2))) ?_
          refine x_val rfl rfl rfl (v_assign rfl) ?_
          refine x_end ?_
          refine t_norm ?_
          refine w_seq ?_
          refine rg_text ?_
          refine x_val rfl rfl rfl (v_fieldAddr (off' := 1) Tryd.underlying52 rfl sz5 (by decide) rfl rfl) ?_
          refine x_val rfl rfl rfl (v_load Tryd.underlying5 rfl rfl (at_ownL (vs := usualG.cells) (List.mem_append_right _ (.tail _ (.head _))) rfl)) ?_
          refine x_val rfl rfl rfl (v_assign rfl) ?_
          refine x_end ?_
          refine t_norm ?_
          refine w_seq ?_
          refine rg_text ?_
          refine x_val rfl rfl rfl (v_move rfl) ?_
          refine x_val rfl rfl rfl (v_len_slice Tryd.underlying25 rfl) ?_
          refine x_val rfl rfl rfl (v_move rfl) ?_
          refine x_end ?_
          refine t_norm ?_
          refine w_block ?_
          refine w_loop (σ := Nat × UInt8 × List UInt8 × RowS) (fun x => x.1 ≤ ee.length ∧ (x.1 ≠ 0 → x.2.1 = 58) ∧ x.2.2.1 ++ (elT x.2.1 (ee.drop x.1) ++ ((l[k].els.drop (j + 1)).flatMap (elT 43) ++ ([39] ++ wrT (l.drop (k + 1))))) = wrT l ∧ rowOK 1 x.2.2.2 x.2.2.1.length (byC x.2.2.1)) (fun x => [(4, Value.pointer (some ⟨p4, 0, none⟩)), (5, Value.pointer (some ⟨p5, 0, none⟩)), (18, Value.slice A l.length cp), (19, Value.int .i64 (l.length : Nat)), (20, Value.int .i64 (k : Nat)), (41, Value.slice A7 l[k].els.length c7), (42, Value.int .i64 (l[k].els.length : Nat)), (43, Value.int .i64 (j : Nat)), (10, Value.int .u8 (x.2.1.toNat : Nat)), (49, Value.slice A8 ee.length c8), (50, Value.int .i64 (ee.length : Nat)), (51, Value.int .i64 (x.1 : Nat))]) (fun x => bld2 66 5 p5 (.pointer (some ⟨p5, 0, none⟩)) x.2.2.2 (x.2.2.1).length ++ [(p7, Obj.cells [Value.string l[k].tag, .slice A7 l[k].els.length c7].toArray 40), (p4, Obj.cells usualG.cells.toArray 52)]) (fun x => [(w, fun _ => True)]) (fun x => ee.length - x.1) ((0, 43, bs, r)) (⟨Nat.zero_le _, fun h => absurd rfl h, by dsimp only; rw [List.drop_zero, ← hB, els_drop hjl, hee]; simp only [List.append_assoc], hr⟩) (l_start (by repeat (first | exact Sub.nil | refine Sub.cons rfl ?_)) (fun _ h => h)) ?_
          rintro ⟨i, c, bs, r⟩ ⟨hi, hc58, hB, hr⟩
          refine w_state ([(4, Value.pointer (some ⟨p4, 0, none⟩)), (5, Value.pointer (some ⟨p5, 0, none⟩)), (18, Value.slice A l.length cp), (19, Value.int .i64 (l.length : Nat)), (20, Value.int .i64 (k : Nat)), (41, Value.slice A7 l[k].els.length c7), (42, Value.int .i64 (l[k].els.length : Nat)), (43, Value.int .i64 (j : Nat)), (10, Value.int .u8 (c.toNat : Nat)), (49, Value.slice A8 ee.length c8), (50, Value.int .i64 (ee.length : Nat)), (51, Value.int .i64 (i : Nat))]) (bld2 66 5 p5 (.pointer (some ⟨p5, 0, none⟩)) r (bs).length ++ [(p7, Obj.cells [Value.string l[k].tag, .slice A7 l[k].els.length c7].toArray 40), (p4, Obj.cells usualG.cells.toArray 52)]) ([(w, fun _ => True)]) ?_
          dsimp only at hi hc58 hB hr
          have hlen := len_le hB hT
          refine w_seq ?_
          refine rg_text ?_
          refine x_bool rfl rfl rfl (v_lss rfl rfl) ?_
          intro b52 hb52
          refine x_end ?_
          refine t_norm ?_
          refine w_seq ?_
          refine w_cond rfl (fun hc52 => ?_) (fun hc52 => ?_)
          · simp only [hb52, decide_eq_true_eq, decide_eq_false_iff_not, Bool.and_eq_true, Bool.or_eq_true, Bool.and_eq_false_iff, Bool.or_eq_false_iff, Bool.not_eq_true', Bool.not_eq_false', ne_eq, Decidable.not_not] at hc52
            have hil : i < ee.length := by omega
            obtain ⟨b3, o3, hA3, _, hc3, hok3⟩ := s_at hr2 hil
            unfold okS at hok3
            refine w_skip ?_
            refine t_norm ?_
            refine w_seq ?_
            refine w_block ?_
            refine w_seq ?_
            refine rg_text ?_
            refine x_val rfl rfl rfl (v_indexAddr Tryd.underlying25 sz9 (congrArg (fun A => some (Value.slice A ee.length c8)) hA3) rfl (by first | omega | (dsimp only; omega)) rfl) ?_
            refine x_val rfl rfl rfl (v_load Tryd.underlying9 rfl rfl (at_ro (.head _) trivial (by rw [Nat.mul_one]; exact hc3))) ?_
            refine x_val rfl rfl rfl (v_assign rfl) ?_
            refine x_end ?_
            refine t_norm ?_
            refine w_seq ?_
            refine rg_text ?_
            refine x_val rfl rfl rfl (v_move rfl) ?_
            refine x_turnf (τ := RowS) (v := .nilIface) (fun r' => rowOK 1 r' (bs ++ [c]).length (byC (bs ++ [c]))) (fun r' => bld2 66 5 p5 (.pointer (some ⟨p5, 0, none⟩)) r' (bs ++ [c]).length ++ [(p7, Obj.cells [Value.string l[k].tag, .slice A7 l[k].els.length c7].toArray 40), (p4, Obj.cells usualG.cells.toArray 52)]) rfl rfl Tryd.func25 (by kernel_rfl) rfl (fun w1 hw1 => (c_WB (bs := bs) w1 hw1 (.inr rfl) (c) hr (by omega)).mono fun e w2 ⟨h1, r', h2, h3⟩ => ⟨h1, r', h2, h3⟩) ?_
            intro r' hr'
            refine x_end ?_
            refine t_norm ?_
            refine w_seq ?_
            refine w_seq ?_
            refine rg_text ?_
            refine x_val rfl rfl rfl (v_move rfl) ?_
            refine x_val rfl rfl rfl (v_len_str Tryd.underlying9 rfl) ?_
            refine x_val rfl rfl rfl (v_move rfl) ?_
            refine x_end ?_
            refine t_norm ?_
            refine w_block ?_
            refine w_loop (σ := Nat × List UInt8 × RowS) (fun x => x.1 ≤ ee[i].size ∧ x.2.1 ++ (escL ((bl ee[i]).drop x.1) ++ (elT 58 (ee.drop (i + 1)) ++ ((l[k].els.drop (j + 1)).flatMap (elT 43) ++ ([39] ++ wrT (l.drop (k + 1)))))) = wrT l ∧ rowOK 1 x.2.2 x.2.1.length (byC x.2.1)) (fun x => [(4, Value.pointer (some ⟨p4, 0, none⟩)), (5, Value.pointer (some ⟨p5, 0, none⟩)), (18, Value.slice A l.length cp), (19, Value.int .i64 (l.length : Nat)), (20, Value.int .i64 (k : Nat)), (41, Value.slice A7 l[k].els.length c7), (42, Value.int .i64 (l[k].els.length : Nat)), (43, Value.int .i64 (j : Nat)), (10, Value.int .u8 (c.toNat : Nat)), (49, Value.slice A8 ee.length c8), (50, Value.int .i64 (ee.length : Nat)), (51, Value.int .i64 (i : Nat)), (12, Value.string ee[i]), (58, Value.int .i64 (ee[i].size : Nat)), (59, Value.int .i64 (x.1 : Nat))]) (fun x => bld2 66 5 p5 (.pointer (some ⟨p5, 0, none⟩)) x.2.2 (x.2.1).length ++ [(p7, Obj.cells [Value.string l[k].tag, .slice A7 l[k].els.length c7].toArray 40), (p4, Obj.cells usualG.cells.toArray 52)]) (fun x => [(w, fun _ => True)]) (fun x => ee[i].size - x.1) ((0, bs ++ [c], r')) (⟨Nat.zero_le _, by dsimp only; rw [List.drop_zero, ← hB, elT_drop hil]; simp only [List.append_assoc, List.cons_append, List.nil_append], hr'⟩) (l_start (by repeat (first | exact Sub.nil | refine Sub.cons rfl ?_)) (fun _ h => h)) ?_
            rintro ⟨m, bs, r⟩ ⟨hm, hB, hr⟩
            refine w_state ([(4, Value.pointer (some ⟨p4, 0, none⟩)), (5, Value.pointer (some ⟨p5, 0, none⟩)), (18, Value.slice A l.length cp), (19, Value.int .i64 (l.length : Nat)), (20, Value.int .i64 (k : Nat)), (41, Value.slice A7 l[k].els.length c7), (42, Value.int .i64 (l[k].els.length : Nat)), (43, Value.int .i64 (j : Nat)), (10, Value.int .u8 (c.toNat : Nat)), (49, Value.slice A8 ee.length c8), (50, Value.int .i64 (ee.length : Nat)), (51, Value.int .i64 (i : Nat)), (12, Value.string ee[i]), (58, Value.int .i64 (ee[i].size : Nat)), (59, Value.int .i64 (m : Nat))]) (bld2 66 5 p5 (.pointer (some ⟨p5, 0, none⟩)) r (bs).length ++ [(p7, Obj.cells [Value.string l[k].tag, .slice A7 l[k].els.length c7].toArray 40), (p4, Obj.cells usualG.cells.toArray 52)]) ([(w, fun _ => True)]) ?_
            dsimp only at hm hB hr
            have hlen := len_le hB hT
            refine w_seq ?_
            refine rg_text ?_
            refine x_bool rfl rfl rfl (v_lss rfl rfl) ?_
            intro b60 hb60
            refine x_end ?_
            refine t_norm ?_
            refine w_seq ?_
            refine w_cond rfl (fun hc60 => ?_) (fun hc60 => ?_)
            · simp only [hb60, decide_eq_true_eq, decide_eq_false_iff_not, Bool.and_eq_true, Bool.or_eq_true, Bool.and_eq_false_iff, Bool.or_eq_false_iff, Bool.not_eq_true', Bool.not_eq_false', ne_eq, Decidable.not_not] at hc60
              have hml : m < ee[i].size := by omega
              rw [esc_drop hml] at hB
              refine w_skip ?_
              refine t_norm ?_
              refine w_seq ?_
              refine w_block ?_
              refine w_seq ?_
              refine rg_text ?_
              refine x_val rfl rfl rfl (v_move rfl) ?_
              refine x_val rfl rfl rfl (v_assign rfl) ?_
              refine x_end ?_
              refine t_norm ?_
              refine w_seq ?_
              refine w_seq ?_
              refine rg_draw 6 [(true, 0), (true, 2), (true, 3), (true, 4), (false, 1), (true, 5)] (by kernel_rfl) (by kernel_rfl) ?_
              refine x_val rfl rfl rfl (v_load_blk (e := 52) (fz := (0, 0)) (cs := usualG.cells.toArray) Tryd.underlying52 rfl rfl (List.mem_append_right _ (.tail _ (.head _))) sz52) ?_
              refine x_val rfl rfl rfl (v_move rfl) ?_
              refine x_val rfl rfl rfl (v_move rfl) ?_
              refine x_val rfl rfl rfl (v_index Tryd.underlying9 rfl rfl (hml)) ?_
              refine x_call rfl rfl rfl Tryd.func27 (by kernel_rfl) rfl (fun w1 hw1 => c_list usualG w1) ?_
              intro v63 wa63 wb63 hm63 hl63 hr63
              obtain ⟨A9, c9, hv9, hl9, _⟩ := id hr63
              subst hv9
              refine x_callb rfl rfl rfl Tryd.func26 (by kernel_rfl) rfl (fun w1 hw1 => c_Contains (bs := gl usualG) _ w1 (keep_new hr63 hw1 (.head _) hm63)) ?_
              intro b67 hb67
              refine x_end ?_
              refine t_norm ?_
              refine w_cond rfl (fun hc67 => ?_) (fun hc67 => ?_)
              · have hsg : signB (byteAt ee[i] m) = true := by rw [← usual_sign, ← hb67]; exact hc67
                unfold escB at hB
                rw [if_pos hsg] at hB
                refine rg_text ?_
                refine x_val rfl rfl rfl (v_fieldAddr (off' := 2) Tryd.underlying52 rfl sz5 (by decide) rfl rfl) ?_
                refine x_val rfl rfl rfl (v_load Tryd.underlying5 rfl rfl (at_ownL (vs := usualG.cells) (List.mem_append_right _ (.tail _ (.head _))) rfl)) ?_
                refine x_turnf (τ := RowS) (v := .nilIface) (fun r' => rowOK 1 r' (bs ++ [63]).length (byC (bs ++ [63]))) (fun r' => bld2 66 5 p5 (.pointer (some ⟨p5, 0, none⟩)) r' (bs ++ [63]).length ++ [(p7, Obj.cells [Value.string l[k].tag, .slice A7 l[k].els.length c7].toArray 40), (p4, Obj.cells usualG.cells.toArray 52)]) rfl rfl Tryd.func25 (by kernel_rfl) rfl (fun w1 hw1 => (c_WB (bs := bs) w1 hw1 (.inr rfl) (63) hr (by omega)).mono fun e w2 ⟨h1, r', h2, h3⟩ => ⟨h1, r', h2, h3⟩) ?_
                intro r' hr'
                refine x_end ?_
                refine t_norm ?_
                refine rg_text ?_
                refine x_val rfl rfl rfl (v_move rfl) ?_
                refine x_val rfl rfl rfl (v_move rfl) ?_
                refine x_val rfl rfl rfl (v_index Tryd.underlying9 rfl rfl (hml)) ?_
                refine x_turnf (τ := RowS) (v := .nilIface) (fun r' => rowOK 1 r' ((bs ++ [63]) ++ [byteAt ee[i] m]).length (byC ((bs ++ [63]) ++ [byteAt ee[i] m]))) (fun r' => bld2 66 5 p5 (.pointer (some ⟨p5, 0, none⟩)) r' ((bs ++ [63]) ++ [byteAt ee[i] m]).length ++ [(p7, Obj.cells [Value.string l[k].tag, .slice A7 l[k].els.length c7].toArray 40), (p4, Obj.cells usualG.cells.toArray 52)]) rfl rfl Tryd.func25 (by kernel_rfl) rfl (fun w1 hw1 => (c_WB (bs := (bs ++ [63])) w1 hw1 (.inr rfl) (byteAt ee[i] m) hr' (by rw [List.length_append, List.length_singleton]; omega)).mono fun e w2 ⟨h1, r', h2, h3⟩ => ⟨h1, r', h2, h3⟩) ?_
                intro r' hr'
                refine x_end ?_
                refine b_norm ?_
                refine t_norm ?_
                refine rg_text ?_
                refine x_val rfl rfl rfl (v_addi rfl rfl rfl (by first | omega | (dsimp only; omega))) ?_
                refine x_val rfl rfl rfl (v_move rfl) ?_
                refine x_end ?_
                exact l_norm (m + 1, (bs ++ [63]) ++ [byteAt ee[i] m], r') (⟨by dsimp only; omega, by dsimp only; rw [← hB]; simp only [List.append_assoc, List.cons_append, List.nil_append], hr'⟩) (by simp only; omega) (by repeat (first | exact Sub.nil | refine Sub.cons rfl ?_)) (fun w1 h => h.less (List.Sublist.refl _) (fun q hq => by simp at hq ⊢; simp [hq]))
              · have hsg : ¬signB (byteAt ee[i] m) = true := by rw [← usual_sign, ← hb67, hc67]; exact Bool.false_ne_true
                unfold escB at hB
                rw [if_neg hsg] at hB
                refine w_skip ?_
                refine t_norm ?_
                refine rg_text ?_
                refine x_val rfl rfl rfl (v_move rfl) ?_
                refine x_val rfl rfl rfl (v_move rfl) ?_
                refine x_val rfl rfl rfl (v_index Tryd.underlying9 rfl rfl (hml)) ?_
                refine x_turnf (τ := RowS) (v := .nilIface) (fun r' => rowOK 1 r' (bs ++ [byteAt ee[i] m]).length (byC (bs ++ [byteAt ee[i] m]))) (fun r' => bld2 66 5 p5 (.pointer (some ⟨p5, 0, none⟩)) r' (bs ++ [byteAt ee[i] m]).length ++ [(p7, Obj.cells [Value.string l[k].tag, .slice A7 l[k].els.length c7].toArray 40), (p4, Obj.cells usualG.cells.toArray 52)]) rfl rfl Tryd.func25 (by kernel_rfl) rfl (fun w1 hw1 => (c_WB (bs := bs) w1 hw1 (.inr rfl) (byteAt ee[i] m) hr (by omega)).mono fun e w2 ⟨h1, r', h2, h3⟩ => ⟨h1, r', h2, h3⟩) ?_
                intro r' hr'
                refine x_end ?_
                refine b_norm ?_
                refine t_norm ?_
                refine rg_text ?_
                refine x_val rfl rfl rfl (v_addi rfl rfl rfl (by first | omega | (dsimp only; omega))) ?_
                refine x_val rfl rfl rfl (v_move rfl) ?_
                refine x_end ?_
                exact l_norm (m + 1, bs ++ [byteAt ee[i] m], r') (⟨by dsimp only; omega, by dsimp only; rw [← hB]; simp only [List.append_assoc, List.cons_append, List.nil_append], hr'⟩) (by simp only; omega) (by repeat (first | exact Sub.nil | refine Sub.cons rfl ?_)) (fun w1 h => h.less (List.Sublist.refl _) (fun q hq => by simp at hq ⊢; simp [hq]))
            · simp only [hb60, decide_eq_false_iff_not] at hc60
              have hdr : (bl ee[i]).drop m = [] := List.drop_eq_nil_of_le (by rw [bl_len]; omega)
              rw [hdr] at hB
              refine w_exit ?_
              refine t_exit ?_
              refine t_exit ?_
              refine b_hit ?_
              refine t_norm ?_
              refine rg_text ?_
              refine x_val rfl rfl rfl (v_fieldAddr (off' := 0) Tryd.underlying52 rfl sz5 (by decide) rfl rfl) ?_
              refine x_val rfl rfl rfl (v_load Tryd.underlying5 rfl rfl (at_ownL (vs := usualG.cells) (List.mem_append_right _ (.tail _ (.head _))) rfl)) ?_
              refine x_val rfl rfl rfl (v_assign rfl) ?_
              refine x_end ?_
              refine b_norm ?_
              refine t_norm ?_
              refine rg_text ?_
              refine x_val rfl rfl rfl (v_addi rfl rfl rfl (by first | omega | (dsimp only; omega))) ?_
              refine x_val rfl rfl rfl (v_move rfl) ?_
              refine x_end ?_
              exact l_norm (i + 1, 58, bs, r) (⟨by dsimp only; omega, fun _ => rfl, by dsimp only; rw [← hB]; rfl, hr⟩) (by simp only; omega) (by repeat (first | exact Sub.nil | refine Sub.cons rfl ?_)) (fun w1 h => h.less (List.Sublist.refl _) (fun q hq => by simp at hq ⊢; simp [hq]))
          · simp only [hb52, decide_eq_false_iff_not] at hc52
            rw [drop_all (k := i) (by omega)] at hB
            refine w_exit ?_
            refine t_exit ?_
            refine t_exit ?_
            refine b_hit ?_
            refine b_norm ?_
            refine t_norm ?_
            refine rg_text ?_
            refine x_val rfl rfl rfl (v_addi rfl rfl rfl (by first | omega | (dsimp only; omega))) ?_
            refine x_val rfl rfl rfl (v_move rfl) ?_
            refine x_end ?_
            exact l_norm (j + 1, bs, r) (⟨by dsimp only; omega, hB, hr⟩) (by simp only; omega) (by repeat (first | exact Sub.nil | refine Sub.cons rfl ?_)) (fun w1 h => h.less (List.Sublist.refl _) (fun q hq => by simp at hq ⊢; simp [hq]))
        · simp only [hb44, decide_eq_false_iff_not] at hc44
          rw [drop_all (k := j) (by omega)] at hB
          refine w_exit ?_
          refine t_exit ?_
          refine t_exit ?_
          refine b_hit ?_
          refine t_norm ?_
          refine rg_text ?_
          refine x_val rfl rfl rfl (v_fieldAddr (off' := 3) Tryd.underlying52 rfl sz5 (by decide) rfl rfl) ?_
          refine x_val rfl rfl rfl (v_load Tryd.underlying5 rfl rfl (at_ownL (vs := usualG.cells) (List.mem_append_right _ (.tail _ (.head _))) rfl)) ?_
          refine x_turnf (τ := RowS) (v := .nilIface) (fun r' => rowOK 1 r' (bs ++ [39]).length (byC (bs ++ [39]))) (fun r' => bld2 66 5 p5 (.pointer (some ⟨p5, 0, none⟩)) r' (bs ++ [39]).length ++ [(p7, Obj.cells [Value.string l[k].tag, .slice A7 l[k].els.length c7].toArray 40), (p4, Obj.cells usualG.cells.toArray 52)]) rfl rfl Tryd.func25 (by kernel_rfl) rfl (fun w1 hw1 => (c_WB (bs := bs) w1 hw1 (.inr rfl) (39) hr (by omega)).mono fun e w2 ⟨h1, r', h2, h3⟩ => ⟨h1, r', h2, h3⟩) ?_
          intro r' hr'
          refine x_end ?_
          refine b_norm ?_
          refine t_norm ?_
          refine rg_text ?_
          refine x_val rfl rfl rfl (v_addi rfl rfl rfl (by first | omega | (dsimp only; omega))) ?_
          refine x_val rfl rfl rfl (v_move rfl) ?_
          refine x_end ?_
          exact l_norm (k + 1, bs ++ [39], (.pointer (some ⟨p5, 0, none⟩)), r') (⟨by dsimp only; omega, by dsimp only; rw [← hB]; simp only [List.flatMap_nil, List.append_assoc, List.nil_append], .inr rfl, hr', fun j h hj => by rcases Nat.lt_succ_iff_lt_or_eq.1 hj with h2 | rfl; (· exact hgood j h h2); exact hgk⟩) (by simp only; omega) (by repeat (first | exact Sub.nil | refine Sub.cons rfl ?_)) (fun w1 h => h.less ((List.Sublist.refl _).append (List.sublist_cons_self _ _)) (fun q hq => by simp at hq ⊢; simp [hq]))
    · simp only [hb21, decide_eq_false_iff_not] at hc21
      rw [drop_all (k := k) (by omega)] at hB
      have hbs : bs = wrT l := by rw [← hB]; exact (List.append_nil _).symm
      subst hbs
      refine w_exit ?_
      refine t_exit ?_
      refine t_exit ?_
      refine b_hit ?_
      refine t_norm ?_
      refine w_seq ?_
      refine x_memW (own' := bld2 66 5 p5 pp r ((wrT l)).length ++ []) (fun w1 h => h.less ((List.Sublist.refl _).append (List.nil_sublist _)) (fun _ h => h)) ?_
      refine rg_text ?_
      refine x_turnf (τ := Unit) (v := .string ⟨(wrT l).toArray⟩) (fun _ => True) (fun _ => []) rfl rfl Tryd.func28 (by kernel_rfl) rfl (fun w1 hw1 => (c_BS (bs := wrT l) w1 hw1 hp hr (B := w.heap.size) (fun q hq => by rw [List.mem_singleton.1 hq]; exact Nat.le_refl _) (fun q hq => by cases hq) (fun q hq => hw1.newer (by simp) (List.mem_append_left _ hq)) (hw1.base (by simp)).size).mono fun e w2 h => ⟨h.1, (), trivial, h.2⟩) ?_
      intro _ _
      refine x_val rfl rfl rfl (v_assign rfl) ?_
      refine x_val rfl rfl rfl (v_assign rfl) ?_
      refine x_end ?_
      refine t_norm ?_
      refine w_ret ?_
      refine ret2 rfl rfl rfl (fun w' hm' => ⟨?_, hm'.base (by simp)⟩)
      rw [wrR_ok hmany (fun j h => hgood j h (by omega))]

end Go.Proofs.YtbamklefagghcaaDoor

namespace Go.Proofs.YtbamklefagghcaaDoor
open Go.RowKit Go.PK
set_option linter.unusedVariables false
set_option linter.unusedSimpArgs false
set_option maxRecDepth 100000 in
theorem c_esc (t : ByteArray) (w : World) (hT : (escL (bl t)).length ≤ 2000000000000) (ht : t.size ≤ 4000000000000) :
    Calls Tryd.prog 29 #[.string t] w fun e w' => e = .returned (.string ⟨(escL (bl t)).toArray⟩) ∧ Later w w' := by
  refine enter (vs := [.string t]) Tryd.func29 rfl Tryd.ntmps29 rfl ?_
  refine w_seq ?_
  refine rg_text ?_
  refine x_val rfl rfl rfl (v_assign rfl) ?_
  refine x_end ?_
  refine t_norm ?_
  refine w_seq ?_
  refine rg_text ?_
  refine x_val rfl rfl rfl (v_assign rfl) ?_
  refine x_end ?_
  refine t_norm ?_
  refine w_seq ?_
  refine w_seq ?_
  refine rg_text ?_
  refine x_val rfl rfl rfl (v_assign rfl) ?_
  refine x_end ?_
  refine t_norm ?_
  refine w_block ?_
  refine w_loop (σ := Nat × List UInt8 × RowS) (fun x => x.1 ≤ t.size ∧ x.2.1 ++ escL ((bl t).drop x.1) = escL (bl t) ∧ rowOK 1 x.2.2 x.2.1.length (byC x.2.1)) (fun x => [(0, Value.string t), (3, rowV x.2.2 x.2.1.length), (4, Value.int .i64 (x.1 : Nat))]) (fun x => rowO 5 x.2.2) (fun x => [(w, fun _ => True)]) (fun x => t.size - x.1) ((0, [], none)) (⟨Nat.zero_le _, rfl, rowOK_nil⟩) (l_start (by repeat (first | exact Sub.nil | refine Sub.cons rfl ?_)) (fun _ h => h)) ?_
  rintro ⟨k, bs, r⟩ ⟨hk, hB, hr⟩
  refine w_state ([(0, Value.string t), (3, rowV r bs.length), (4, Value.int .i64 (k : Nat))]) (rowO 5 r) ([(w, fun _ => True)]) ?_
  dsimp only at hk hB hr
  have hlen := len_le hB hT
  refine w_seq ?_
  refine w_seq ?_
  refine rg_text ?_
  refine x_val rfl rfl rfl (v_move rfl) ?_
  refine x_val rfl rfl rfl (v_move rfl) ?_
  refine x_val rfl rfl rfl (v_len_str Tryd.underlying9 rfl) ?_
  refine x_bool rfl rfl rfl (v_lss rfl rfl) ?_
  intro b9 hb9
  refine x_end ?_
  refine t_norm ?_
  refine w_cond rfl (fun hc9 => ?_) (fun hc9 => ?_)
  · simp only [hb9, decide_eq_true_eq, decide_eq_false_iff_not, Bool.and_eq_true, Bool.or_eq_true, Bool.and_eq_false_iff, Bool.or_eq_false_iff, Bool.not_eq_true', Bool.not_eq_false', ne_eq, Decidable.not_not] at hc9
    have hkl : k < t.size := by omega
    rw [esc_drop hkl] at hB
    refine w_skip ?_
    refine t_norm ?_
    refine w_seq ?_
    refine w_block ?_
    refine w_seq ?_
    refine rg_text ?_
    refine x_val rfl rfl rfl (v_move rfl) ?_
    refine x_val rfl rfl rfl (v_move rfl) ?_
    refine x_val rfl rfl rfl (v_index Tryd.underlying9 rfl rfl (hkl)) ?_
    refine x_callb rfl rfl rfl Tryd.func45 (by kernel_rfl) rfl (fun w1 hw1 => c_rsign _ w1) ?_
    intro b15 hb15
    refine x_val rfl rfl rfl (v_assign rfl) ?_
    refine x_end ?_
    refine t_norm ?_
    refine w_seq ?_
    refine w_seq ?_
    refine rg_text ?_
    refine x_val rfl rfl rfl (v_move rfl) ?_
    refine x_end ?_
    refine t_norm ?_
    refine w_cond rfl (fun hc16 => ?_) (fun hc16 => ?_)
    · have hsg : signB (byteAt t k) = true := by rw [← hb15]; exact hc16
      unfold escB at hB
      rw [if_pos hsg] at hB
      refine rg_text ?_
      refine x_val rfl rfl rfl (v_move rfl) ?_
      refine x_buildSliceL rfl rfl rfl Tryd.underlying24 sz5 zr5 rfl rfl rfl ?_
      intro p18
      refine x_append (e := 5) [(p18, _)] (l2 := []) r (len := bs.length) (xs := byC bs) rfl rfl rfl rfl (by simp only [List.append_nil]; rfl) hr Tryd.underlying24 ap5 rfl rfl (m := 1) (news := byC [63]) (fun i hi => at_ownL (vs := byC [63]) (.head _) (by rw [Nat.zero_add]; exact List.getElem?_eq_getElem hi)) rfl (by simp only [maxLen]; omega) (by omega) ?_
      intro r1 hr1
      rw [List.append_nil]
      refine x_val rfl rfl rfl (v_assign rfl) ?_
      refine x_end ?_
      refine t_norm ?_
      refine rg_text ?_
      refine x_val rfl rfl rfl (v_move rfl) ?_
      refine x_val rfl rfl rfl (v_move rfl) ?_
      refine x_val rfl rfl rfl (v_move rfl) ?_
      refine x_val rfl rfl rfl (v_index Tryd.underlying9 rfl rfl (hkl)) ?_
      refine x_buildSliceL rfl rfl rfl Tryd.underlying24 sz5 zr5 rfl rfl rfl ?_
      intro p24
      refine x_append (e := 5) [(p24, _), (p18, Obj.cells (byC [63]).toArray 5)] (l2 := []) r1 (len := bs.length + 1) (xs := byC bs ++ byC [63]) rfl rfl rfl rfl (by simp only [List.append_nil]; rfl) hr1 Tryd.underlying24 ap5 rfl rfl (m := 1) (news := byC [byteAt t k]) (fun i hi => at_ownL (vs := byC [byteAt t k]) (.head _) (by rw [Nat.zero_add]; exact List.getElem?_eq_getElem hi)) rfl (by simp only [maxLen]; omega) (by omega) ?_
      intro r2 hr2
      rw [List.append_nil]
      refine x_val rfl rfl rfl (v_assign rfl) ?_
      refine x_end ?_
      refine b_norm ?_
      refine t_norm ?_
      refine rg_text ?_
      refine x_val rfl rfl rfl (v_move rfl) ?_
      refine x_val rfl rfl rfl (v_addi rfl rfl rfl (by first | omega | (dsimp only; omega))) ?_
      refine x_val rfl rfl rfl (v_assign rfl) ?_
      refine x_end ?_
      have hl3 : ((bs ++ [63]) ++ [byteAt t k] : List UInt8).length = bs.length + 1 + 1 := by simp
      have hr3 : rowOK 1 r2 ((bs ++ [63]) ++ [byteAt t k]).length (byC ((bs ++ [63]) ++ [byteAt t k])) := by rw [byC_app, byC_app, List.length_append, List.length_append]; exact hr2
      exact l_norm (k + 1, (bs ++ [63]) ++ [byteAt t k], r2) ⟨by dsimp only; omega, by dsimp only; rw [← hB]; simp only [List.append_assoc, List.cons_append, List.nil_append], hr3⟩ (by simp only; omega) (by dsimp only; rw [hl3]; repeat (first | exact Sub.nil | refine Sub.cons rfl ?_)) (fun w1 h => h.less ((List.sublist_cons_self _ _).trans (List.sublist_cons_self _ _)) (fun _ h => h))
    · have hsg : ¬signB (byteAt t k) = true := by rw [← hb15, hc16]; exact Bool.false_ne_true
      unfold escB at hB
      rw [if_neg hsg] at hB
      refine w_skip ?_
      refine t_norm ?_
      refine rg_text ?_
      refine x_val rfl rfl rfl (v_move rfl) ?_
      refine x_val rfl rfl rfl (v_move rfl) ?_
      refine x_val rfl rfl rfl (v_move rfl) ?_
      refine x_val rfl rfl rfl (v_index Tryd.underlying9 rfl rfl (hkl)) ?_
      refine x_buildSliceL rfl rfl rfl Tryd.underlying24 sz5 zr5 rfl rfl rfl ?_
      intro p24
      refine x_append (e := 5) [(p24, _)] (l2 := []) r (len := bs.length) (xs := byC bs) rfl rfl rfl rfl (by simp only [List.append_nil]; rfl) hr Tryd.underlying24 ap5 rfl rfl (m := 1) (news := byC [byteAt t k]) (fun i hi => at_ownL (vs := byC [byteAt t k]) (.head _) (by rw [Nat.zero_add]; exact List.getElem?_eq_getElem hi)) rfl (by simp only [maxLen]; omega) (by omega) ?_
      intro r2 hr2
      rw [List.append_nil]
      refine x_val rfl rfl rfl (v_assign rfl) ?_
      refine x_end ?_
      refine b_norm ?_
      refine t_norm ?_
      refine rg_text ?_
      refine x_val rfl rfl rfl (v_move rfl) ?_
      refine x_val rfl rfl rfl (v_addi rfl rfl rfl (by first | omega | (dsimp only; omega))) ?_
      refine x_val rfl rfl rfl (v_assign rfl) ?_
      refine x_end ?_
      exact l_norm (k + 1, bs ++ [byteAt t k], r2) ⟨by dsimp only; omega, by dsimp only; rw [← hB]; simp only [List.append_assoc, List.cons_append, List.nil_append], by dsimp only; rw [byC_app, List.length_append]; exact hr2⟩ (by simp only; omega) (by dsimp only; rw [List.length_append]; repeat (first | exact Sub.nil | refine Sub.cons rfl ?_)) (fun w1 h => h.less (List.sublist_cons_self _ _) (fun _ h => h))
  · simp only [hb9, decide_eq_false_iff_not] at hc9
    have hdr : (bl t).drop k = [] := List.drop_eq_nil_of_le (by rw [bl_len]; omega)
    rw [hdr] at hB
    have hbs : bs = escL (bl t) := by rw [← hB]; exact (List.append_nil _).symm
    refine w_exit ?_
    refine t_exit ?_
    refine t_exit ?_
    refine b_hit ?_
    refine t_norm ?_
    refine w_seq ?_
    refine rg_text ?_
    refine x_val rfl rfl rfl (v_move rfl) ?_
    refine x_val rfl rfl rfl (v_toStrR (E := 5) bs Tryd.underlying24 Tryd.underlying5 Tryd.underlying9 rfl hr rfl (fun q hq => hq)) ?_
    refine x_val rfl rfl rfl (v_assign rfl) ?_
    refine x_end ?_
    refine t_norm ?_
    refine w_ret ?_
    refine ret1 rfl rfl (fun w' hm => ⟨?_, hm.base (by simp)⟩)
    rw [hbs]

end Go.Proofs.YtbamklefagghcaaDoor
