import Derived.Test.YtmihkbciilloaaaWz
import Derived.Test.YtmihkbciilloaaaPkTree
namespace Go.Proofs.Ytmihkbciilloaaa
open Go.RowKit Go.PK
set_option linter.unusedVariables false
set_option linter.unusedSimpArgs false

theorem add_row {w w' : World} {own : List (Nat × Obj)} {ro : List Snap} {l : List (Nat × Obj)} (h : Mem w own ro) (hl : Later w w') (h' : Mem w' l [(w, fun _ => True)]) : Mem w' (l ++ own) ro where
  own_at := fun p hp => by
    rcases List.mem_append.1 hp with hp | hp
    · exact h'.own_at p hp
    · exact (h.later hl).own_at p hp
  own_nd := by
    rw [List.map_append, List.nodup_append]
    refine ⟨h'.own_nd, h.own_nd, fun x hx y hy e => ?_⟩
    obtain ⟨p, hp, rfl⟩ := List.mem_map.1 hx
    obtain ⟨q, hq, rfl⟩ := List.mem_map.1 hy
    have h1 := h'.newer (List.mem_singleton.2 rfl) hp
    have h2 := h.lt hq
    omega
  ro_st := (h.later hl).ro_st
  ro_at := (h.later hl).ro_at
  apart := fun p hp s hs hd => by
    rcases List.mem_append.1 hp with hp | hp
    · exact Nat.le_trans (h.ro_st s hs).2.2.2 (h'.newer (List.mem_singleton.2 rfl) hp)
    · exact h.apart p hp s hs hd
theorem c18o {own : List (Nat × Obj)} {ro : List Snap} {v0 v : Value} {rs : List Rl} {fs : List Fl} {D D2 : Nat → Prop} {kd lv : Value} (w : World) (hm : Mem w own ro) (hrs : sliceRd tyRl D w v0 rs) (hfs : sliceRd tyFl D2 w v fs) (hbd : fs.length + rs.length < 8796093022208) :
    Calls Try.prog 18 #[v0, .agg #[kd, lv, v]] w fun e w' => ∃ r, e = .returned (rowV r (chk rs fs).length) ∧ Later w w' ∧ rowOK 2 r (chk rs fs).length ((chk rs fs).flatMap pbC) ∧ Mem w' (rowO 54 r ++ own) ro :=
  Calls.mono (c18 w (hrs.keep (D' := fun _ => True) (fun k hk hl => ⟨trivial, rfl⟩)) (hfs.keep (D' := fun _ => True) (fun k hk hl => ⟨trivial, rfl⟩)) hbd) fun e w' ⟨v', h1, h2, r, h3, h4, own', h5⟩ => ⟨r, h3 ▸ h1, h2, h4, add_row hm h2 (h5.less (List.sublist_append_right _ _) (fun _ h => h))⟩
theorem row_field {r : RowS} {ps : List Pb} (h : rowOK 2 r ps.length (ps.flatMap pbC)) {j : Nat} (hj : j < ps.length) : ∃ b cs c, r = some (b, cs, c) ∧ ps.length * 2 ≤ cs.length ∧ cs[j * 2]? = some (Value.int .i64 ps[j].field) := by
  obtain ⟨h1, h2⟩ := h
  cases r with
  | none => simp only at h2; omega
  | some x =>
    obtain ⟨b, cs, c⟩ := x
    obtain ⟨h3, h4, h5, h6⟩ := h2
    simp only at h3 h4 h5 h6
    refine ⟨b, cs, c, rfl, by omega, ?_⟩
    have := flat_get (f := pbC) (m := 2) (fun _ => rfl) ps j hj 0 (by omega)
    rw [← h6, List.getElem?_take_of_lt (by omega)] at this
    simpa [pbC] using this
set_option maxRecDepth 100000 in
theorem c10 {v0 v : Value} {xs ls : List I4} {D0 D : Nat → Prop} (w : World) (hxs : sliceRd tyI4 D0 w v0 xs) (hls : sliceRd tyI4 D w v ls) :
    Calls Try.prog 10 #[v0, v] w fun e w' => e = .returned (.bool (true)) ∧ Later w w' := by
  have hcb : (chk (rulesOf xs) (made ls)).length ≤ 28 := by have h1 := chkM_len (rulesOf xs) (made ls) (rulesOf xs).length; have := made_len ls; have := rulesOf_len xs; unfold chk; omega
  refine enter (vs := [v0, v]) Try.func10 rfl Try.ntmps10 rfl ?_
  refine w_seq ?_
  refine rg_text ?_
  refine x_val rfl rfl rfl (v_assign rfl) ?_
  refine x_end ?_
  refine t_norm ?_
  refine w_seq ?_
  refine rg_text ?_
  refine x_callb rfl rfl rfl Try.func11 (by kernel_rfl) rfl (fun w1 hw1 => c11 w1) ?_
  intro b13 hb13
  obtain rfl : b13 = true := hb13
  refine x_val rfl rfl rfl (v_assign rfl) ?_
  refine x_end ?_
  refine t_norm ?_
  refine w_seq ?_
  refine rg_text ?_
  refine x_val rfl rfl rfl (v_move rfl) ?_
  refine x_call rfl rfl rfl Try.func15 (by kernel_rfl) rfl (fun w1 hw1 => c15n w1 (hls.keep (Kept.later (hw1.base (by simp))))) ?_
  intro v15 wa15 wb15 hm15 hl15 hr15
  obtain ⟨u15, rfl, hrd15⟩ := hr15
  obtain ⟨A15, cp15, hu15, _⟩ := id hrd15
  subst hu15
  refine x_val rfl rfl rfl (v_move rfl) ?_
  refine x_call rfl rfl rfl Try.func15 (by kernel_rfl) rfl (fun w1 hw1 => c15n w1 (hls.keep (Kept.later (hw1.base (by simp))))) ?_
  intro v17 wa17 wb17 hm17 hl17 hr17
  obtain ⟨u17, rfl, hrd17⟩ := hr17
  obtain ⟨A17, cp17, hu17, _⟩ := id hrd17
  subst hu17
  refine x_alloc rfl rfl rfl zr32 ?_
  intro p6
  refine x_alloc rfl rfl rfl zr32 ?_
  intro p7
  refine x_store0 [(p7, _)] rfl rfl rfl rfl sz32 rfl rfl ?_
  refine x_store0 [] rfl rfl rfl rfl sz32 rfl rfl ?_
  refine x_end ?_
  refine t_norm ?_
  refine w_seq ?_
  refine rg_text ?_
  refine x_val rfl rfl rfl (v_move rfl) ?_
  refine x_call rfl rfl rfl Try.func20 (by kernel_rfl) rfl (fun w1 hw1 => c20 w1 (hxs.keep (Kept.later (hw1.base (by simp))))) ?_
  intro v19 wa19 wb19 hm19 hl19 hr19
  obtain ⟨A19, cp19, hu19, _⟩ := id hr19
  subst hu19
  refine x_val rfl rfl rfl (v_move rfl) ?_
  refine x_call rfl rfl rfl Try.func20 (by kernel_rfl) rfl (fun w1 hw1 => c20 w1 (hxs.keep (Kept.later (hw1.base (by simp))))) ?_
  intro v21 wa21 wb21 hm21 hl21 hr21
  obtain ⟨A21, cp21, hu21, _⟩ := id hr21
  subst hu21
  refine x_val rfl rfl rfl (v_assign rfl) ?_
  refine x_val rfl rfl rfl (v_assign rfl) ?_
  refine x_end ?_
  refine t_norm ?_
  refine w_seq ?_
  refine w_fix [(p7, Obj.cells [Value.int .u8 97, .int .u8 109, .slice A17 (made ls).length cp17].toArray 32), (p6, Obj.cells [Value.int .u8 97, .int .u8 109, .slice A15 (made ls).length cp15].toArray 32)] (List.Sublist.refl _) (fun w4 hm4 => ?_)
  have ms : w.heap.size ≤ w4.heap.size := (hm4.base (by simp)).size
  have g15 := hrd15.keep (Kept.made (w := w) hm4 (by repeat (first | exact List.Mem.head _ | apply List.Mem.tail)) hm15 (hm15.base (by simp)).size)
  have g17 := hrd17.keep (Kept.made (w := w) hm4 (by repeat (first | exact List.Mem.head _ | apply List.Mem.tail)) hm17 (hm17.base (by simp)).size)
  have g19 := hr19.keep (Kept.made (w := w) hm4 (by repeat (first | exact List.Mem.head _ | apply List.Mem.tail)) hm19 (hm19.base (by simp)).size)
  have g21 := hr21.keep (Kept.made (w := w) hm4 (by repeat (first | exact List.Mem.head _ | apply List.Mem.tail)) hm21 (hm21.base (by simp)).size)
  refine rg_text ?_
  refine x_val rfl rfl rfl (v_move rfl) ?_
  refine x_val rfl rfl rfl (v_load_blk Try.underlying32 rfl rfl (by first | exact .head _ | exact .tail _ (.head _) | exact .tail _ (.tail _ (.head _)) | (repeat (first | exact List.Mem.head _ | apply List.Mem.tail | apply List.mem_append_right))) (by exact sz32)) ?_
  refine x_own (τ := RowS) (fun r => rowV r (chk (rulesOf xs) (made ls)).length) (fun r => rowOK 2 r (chk (rulesOf xs) (made ls)).length ((chk (rulesOf xs) (made ls)).flatMap pbC)) (fun r => rowO 54 r ++ [(p7, Obj.cells [Value.int .u8 97, .int .u8 109, .slice A17 (made ls).length cp17].toArray 32), (p6, Obj.cells [Value.int .u8 97, .int .u8 109, .slice A15 (made ls).length cp15].toArray 32)]) rfl rfl rfl Try.func18 (by kernel_rfl) rfl (fun w1 hw1 => c18o (fs := made ls) w1 hw1 (g19.keep (Kept.new hw1 (by repeat (first | exact List.Mem.head _ | apply List.Mem.tail)))) (g15.keep (Kept.new hw1 (by repeat (first | exact List.Mem.head _ | apply List.Mem.tail)))) (by have := made_len ls; have := rulesOf_len xs; omega)) ?_
  intro r24 hr24
  refine x_val rfl rfl rfl (v_assign rfl) ?_
  refine x_end ?_
  refine t_norm ?_
  refine w_seq ?_
  refine w_seq ?_
  refine rg_text ?_
  refine x_val rfl rfl rfl (v_move rfl) ?_
  refine x_val rfl rfl rfl (v_len_slice Try.underlying35 rfl) ?_
  refine x_val rfl rfl rfl (v_move rfl) ?_
  refine x_end ?_
  refine t_norm ?_
  refine w_block ?_
  refine w_loop (σ := Nat × RowS) (fun x => x.1 ≤ (chk (rulesOf xs) (made ls)).length ∧ ∀ j (h : j < (chk (rulesOf xs) (made ls)).length), x.1 ≤ j → ∃ b cs c, x.2 = some (b, cs, c) ∧ (chk (rulesOf xs) (made ls)).length * 2 ≤ cs.length ∧ cs[j * 2]? = some (Value.int .i64 (chk (rulesOf xs) (made ls))[j].field)) (fun x => [(5, .bool true), (6, .pointer (some ⟨p6, 0, none⟩)), (7, .pointer (some ⟨p7, 0, none⟩)), (8, .slice A19 (rulesOf xs).length cp19), (9, .slice A21 (rulesOf xs).length cp21), (10, rowV x.2 (chk (rulesOf xs) (made ls)).length), (26, Value.int .i64 (chk (rulesOf xs) (made ls)).length), (27, Value.int .i64 (x.1 : Nat))]) (fun x => rowO 54 x.2 ++ [(p7, Obj.cells [Value.int .u8 97, .int .u8 109, .slice A17 (made ls).length cp17].toArray 32), (p6, Obj.cells [Value.int .u8 97, .int .u8 109, .slice A15 (made ls).length cp15].toArray 32)]) (fun x => [(w4, notOwn [(p7, Obj.cells [Value.int .u8 97, .int .u8 109, .slice A17 (made ls).length cp17].toArray 32), (p6, Obj.cells [Value.int .u8 97, .int .u8 109, .slice A15 (made ls).length cp15].toArray 32)]), (w, fun _ => True)]) (fun x => (chk (rulesOf xs) (made ls)).length - x.1) ((0, r24)) (⟨Nat.zero_le _, fun j h _ => row_field hr24 h⟩) (l_start (by repeat (first | exact Sub.nil | refine Sub.cons rfl ?_)) (fun _ h => h.less (List.Sublist.refl _) (by intro s hs; rcases List.mem_cons.1 hs with rfl | hs; (· exact .head _); rw [List.mem_singleton.1 hs]; simp))) ?_
  rintro ⟨k, r⟩ ⟨hk, hall⟩
  refine w_state ([(5, .bool true), (6, .pointer (some ⟨p6, 0, none⟩)), (7, .pointer (some ⟨p7, 0, none⟩)), (8, .slice A19 (rulesOf xs).length cp19), (9, .slice A21 (rulesOf xs).length cp21), (10, rowV r (chk (rulesOf xs) (made ls)).length), (26, Value.int .i64 (chk (rulesOf xs) (made ls)).length), (27, Value.int .i64 (k : Nat))]) (rowO 54 r ++ [(p7, Obj.cells [Value.int .u8 97, .int .u8 109, .slice A17 (made ls).length cp17].toArray 32), (p6, Obj.cells [Value.int .u8 97, .int .u8 109, .slice A15 (made ls).length cp15].toArray 32)]) ([(w4, notOwn [(p7, Obj.cells [Value.int .u8 97, .int .u8 109, .slice A17 (made ls).length cp17].toArray 32), (p6, Obj.cells [Value.int .u8 97, .int .u8 109, .slice A15 (made ls).length cp15].toArray 32)]), (w, fun _ => True)]) ?_
  dsimp only at hk hall
  refine w_seq ?_
  refine rg_text ?_
  refine x_bool rfl rfl rfl (v_lss rfl rfl) ?_
  intro b28 hb28
  refine x_end ?_
  refine t_norm ?_
  refine w_seq ?_
  refine w_cond rfl (fun hc28 => ?_) (fun hc28 => ?_)
  · simp only [hb28, decide_eq_true_eq, decide_eq_false_iff_not, Bool.and_eq_true, Bool.or_eq_true, Bool.and_eq_false_iff, Bool.or_eq_false_iff, Bool.not_eq_true', Bool.not_eq_false', ne_eq, Decidable.not_not] at hc28
    have hkc : k < (chk (rulesOf xs) (made ls)).length := by omega
    obtain ⟨bA, cs, cA, rfl, hcl, hcf⟩ := hall k hkc (Nat.le_refl _)
    refine w_skip ?_
    refine t_norm ?_
    refine w_seq ?_
    refine w_block ?_
    refine w_seq ?_
    refine rg_text ?_
    refine x_val rfl rfl rfl (v_move rfl) ?_
    refine x_val rfl rfl rfl (v_assign rfl) ?_
    refine x_end ?_
    refine t_norm ?_
    refine rg_text ?_
    refine x_val rfl rfl rfl (v_move rfl) ?_
    refine x_val rfl rfl rfl (v_move rfl) ?_
    refine x_val rfl rfl rfl (v_indexAddr Try.underlying35 sz54 rfl rfl (by first | omega | (dsimp only; omega)) rfl) ?_
    refine x_val rfl rfl rfl (v_fieldAddr Try.underlying54 rfl sz3 (by decide) rfl rfl) ?_
    refine x_val rfl rfl rfl (v_load Try.underlying3 rfl rfl (at_ownL (vs := cs) (.head _) (by simpa using hcf))) ?_
    refine x_val rfl rfl rfl (v_add rfl rfl) ?_
    refine x_val rfl rfl rfl (v_indexAddr (off' := 0 + k * 2) Try.underlying35 sz54 rfl rfl (by first | omega | (dsimp only; omega)) rfl) ?_
    refine x_val rfl rfl rfl (v_fieldAddr (off' := 0 + k * 2 + 0) Try.underlying54 rfl sz3 (by decide) rfl rfl) ?_
    refine x_store [] rfl rfl rfl rfl sz3 rfl (by dsimp only; omega) ?_
    refine x_end ?_
    refine b_norm ?_
    refine t_norm ?_
    refine rg_text ?_
    refine x_val rfl rfl rfl (v_addi rfl rfl rfl (by first | omega | (dsimp only; omega))) ?_
    refine x_val rfl rfl rfl (v_move rfl) ?_
    refine x_end ?_
    refine l_norm (k + 1, some (bA, cs.take (k * 2) ++ [Value.int .i64 (IntKind.i64.wrap ((chk (rulesOf xs) (made ls))[k].field + 7))] ++ cs.drop (k * 2 + 1), cA)) ⟨by dsimp only; omega, fun j h hkj => ?_⟩ (by simp only; omega) (by repeat (first | exact Sub.nil | refine Sub.cons rfl ?_)) (fun _ h => by simp only [Nat.zero_add, Nat.add_zero] at h; exact h)
    obtain ⟨b', cs', c', e', h1', h2'⟩ := hall j h (by omega)
    injection e' with e'; injection e' with e1' e2'; injection e2' with e2' e3'; subst e1' e2' e3'
    exact ⟨_, _, _, rfl, by simp; omega, (put_get (by omega) (by omega)).trans h2'⟩
  · 
    refine w_exit ?_
    refine t_exit ?_
    refine t_exit ?_
    refine b_hit ?_
    refine t_norm ?_
    refine w_seq ?_
    refine w_seq ?_
    refine rg_text ?_
    refine x_val rfl rfl rfl (v_move rfl) ?_
    refine x_val rfl rfl rfl (v_len_slice Try.underlying23 rfl) ?_
    refine x_val rfl rfl rfl (v_move rfl) ?_
    refine x_end ?_
    refine t_norm ?_
    refine w_block ?_
    refine w_loop (σ := Nat) (fun k => k ≤ (rulesOf xs).length) (fun k => [(5, .bool true), (6, .pointer (some ⟨p6, 0, none⟩)), (7, .pointer (some ⟨p7, 0, none⟩)), (8, .slice A19 (rulesOf xs).length cp19), (9, .slice A21 (rulesOf xs).length cp21), (10, rowV r (chk (rulesOf xs) (made ls)).length), (40, Value.int .i64 (rulesOf xs).length), (41, Value.int .i64 (k : Nat))]) (fun k => rowO 54 r ++ [(p7, Obj.cells [Value.int .u8 97, .int .u8 109, .slice A17 (made ls).length cp17].toArray 32), (p6, Obj.cells [Value.int .u8 97, .int .u8 109, .slice A15 (made ls).length cp15].toArray 32)]) (fun k => [(w4, notOwn [(p7, Obj.cells [Value.int .u8 97, .int .u8 109, .slice A17 (made ls).length cp17].toArray 32), (p6, Obj.cells [Value.int .u8 97, .int .u8 109, .slice A15 (made ls).length cp15].toArray 32)]), (w, fun _ => True)]) (fun k => (rulesOf xs).length - k) (0) (Nat.zero_le _) (l_start (by repeat (first | exact Sub.nil | refine Sub.cons rfl ?_)) (fun _ h => h)) ?_
    rintro k hk
    refine w_seq ?_
    refine rg_text ?_
    refine x_bool rfl rfl rfl (v_lss rfl rfl) ?_
    intro b42 hb42
    refine x_end ?_
    refine t_norm ?_
    refine w_seq ?_
    refine w_cond rfl (fun hc42 => ?_) (fun hc42 => ?_)
    · simp only [hb42, decide_eq_true_eq, decide_eq_false_iff_not, Bool.and_eq_true, Bool.or_eq_true, Bool.and_eq_false_iff, Bool.or_eq_false_iff, Bool.not_eq_true', Bool.not_eq_false', ne_eq, Decidable.not_not] at hc42
      have := rulesOf_len xs
      have hkr : k < (rulesOf xs).length := by omega
      obtain ⟨_, _, e0, _, _, q0⟩ := id g19
      injection e0 with e1 e2 e3
      subst e1 e3
      obtain ⟨b0, o0, hA0, hD0, hb0, hc0⟩ := q0 (by omega)
      obtain ⟨cs0, hcs0, hrd0, hok0⟩ := hc0 k hkr
      subst hrd0
      obtain ⟨_, _, e0, _, _, q0⟩ := id g21
      injection e0 with e1 e2 e3
      subst e1 e3
      obtain ⟨b1, o1, hA1, hD1, hb1, hc1⟩ := q0 (by omega)
      obtain ⟨cs1, hcs1, hrd1, hok1⟩ := hc1 k hkr
      subst hrd1
      refine w_skip ?_
      refine t_norm ?_
      refine w_seq ?_
      refine w_block ?_
      refine w_seq ?_
      refine rg_text ?_
      refine x_val rfl rfl rfl (v_move rfl) ?_
      refine x_val rfl rfl rfl (v_assign rfl) ?_
      refine x_end ?_
      refine t_norm ?_
      refine w_seq ?_
      refine rg_draw 9 [(true, 0), (true, 1), (true, 2), (true, 3), (true, 4), (true, 5), (true, 6), (true, 7), (true, 8)] (by kernel_rfl) (by kernel_rfl) ?_
      refine x_val rfl rfl rfl (v_move rfl) ?_
      refine x_val rfl rfl rfl (v_move rfl) ?_
      refine x_val rfl rfl rfl (v_indexAddr Try.underlying23 sz27 (congrArg (fun A => some (Value.slice A (rulesOf xs).length cp19)) hA0) rfl (by first | omega | (dsimp only; omega)) rfl) ?_
      refine x_val rfl rfl rfl (v_loadN (vs := [Value.string (rulesOf xs)[k].tag, .bool (rulesOf xs)[k].must, .bool (rulesOf xs)[k].once, .string (rulesOf xs)[k].i0, .string (rulesOf xs)[k].i1, .string (rulesOf xs)[k].codes, .string (rulesOf xs)[k].single]) Try.underlying27 rfl sz27 rfl (fun i hi => at_ro (.head _) hD0.2 (hcs0 i hi))) ?_
      refine x_val rfl rfl rfl (v_move rfl) ?_
      refine x_val rfl rfl rfl (v_move rfl) ?_
      refine x_val rfl rfl rfl (v_indexAddr Try.underlying23 sz27 (congrArg (fun A => some (Value.slice A (rulesOf xs).length cp21)) hA1) rfl (by first | omega | (dsimp only; omega)) rfl) ?_
      refine x_val rfl rfl rfl (v_loadN (vs := [Value.string (rulesOf xs)[k].tag, .bool (rulesOf xs)[k].must, .bool (rulesOf xs)[k].once, .string (rulesOf xs)[k].i0, .string (rulesOf xs)[k].i1, .string (rulesOf xs)[k].codes, .string (rulesOf xs)[k].single]) Try.underlying27 rfl sz27 rfl (fun i hi => at_ro (.head _) hD1.2 (hcs1 i hi))) ?_
      refine x_bool rfl rfl rfl (v_neA (by kernel_rfl) rfl rfl (fun w1 => eq27 w1 (rulesOf xs)[k] (rulesOf xs)[k])) ?_
      intro b52 hb52
      refine x_end ?_
      refine t_norm ?_
      refine w_cond rfl (fun hc52 => ?_) (fun hc52 => ?_)
      · exact absurd hc52 (by rw [hb52]; simp)
      · simp only [hb52, decide_eq_true_eq, decide_eq_false_iff_not, Bool.and_eq_true, Bool.or_eq_true, Bool.and_eq_false_iff, Bool.or_eq_false_iff, Bool.not_eq_true', Bool.not_eq_false', ne_eq, Decidable.not_not] at hc52
        refine w_skip ?_
        refine b_norm ?_
        refine t_norm ?_
        refine rg_text ?_
        refine x_val rfl rfl rfl (v_addi rfl rfl rfl (by first | omega | (dsimp only; omega))) ?_
        refine x_val rfl rfl rfl (v_move rfl) ?_
        refine x_end ?_
        exact l_norm (k + 1) (by omega) (by omega) (by repeat (first | exact Sub.nil | refine Sub.cons rfl ?_)) (fun _ h => h)
    · simp only [hb42, decide_eq_true_eq, decide_eq_false_iff_not, Bool.and_eq_true, Bool.or_eq_true, Bool.and_eq_false_iff, Bool.or_eq_false_iff, Bool.not_eq_true', Bool.not_eq_false', ne_eq, Decidable.not_not] at hc42
      refine w_exit ?_
      refine t_exit ?_
      refine t_exit ?_
      refine b_hit ?_
      refine t_norm ?_
      refine w_seq ?_
      refine rg_draw 25 [(true, 0), (true, 1), (true, 2), (true, 3), (true, 4), (true, 5), (true, 6), (true, 7), (true, 8), (true, 10), (true, 11), (false, 9), (false, 12), (true, 13), (true, 14), (true, 15), (true, 16), (true, 17), (true, 18), (true, 19), (true, 20), (true, 21), (true, 22), (true, 23), (true, 24)] (by kernel_rfl) (by kernel_rfl) ?_
      refine x_val rfl rfl rfl (v_move rfl) ?_
      refine x_val rfl rfl rfl (v_move rfl) ?_
      refine x_if [] rfl rfl rfl rfl rfl (fun hg => by obtain ⟨hg0, _⟩ := hg; (try simp only [List.cons_append, List.nil_append, gvl_nil, gvl_t, gvl_f]); exact v_load_blk (e := 32) (fz := (0, 0)) (cs := [Value.int .u8 97, .int .u8 109, .slice A15 (made ls).length cp15].toArray) Try.underlying32 rfl rfl (List.mem_append_right _ (.tail _ (.head _))) (by exact sz32)) ?_
      refine x_if [] rfl rfl rfl rfl rfl (fun hg => by obtain ⟨hg0, _⟩ := hg; (try simp only [List.cons_append, List.nil_append, gvl_nil, gvl_t, gvl_f]); exact v_load_blk (e := 32) (fz := (0, 0)) (cs := [Value.int .u8 97, .int .u8 109, .slice A17 (made ls).length cp17].toArray) Try.underlying32 rfl rfl (List.mem_append_right _ (.head _)) (by exact sz32)) ?_
      refine x_call_ifb [] rfl rfl rfl rfl rfl Try.func22 (by kernel_rfl) (fun hg => by obtain ⟨hg0, _⟩ := hg; (try simp only [List.cons_append, List.nil_append, gvl_nil, gvl_t, gvl_f]); refine ⟨_, rfl, ?_⟩; exact fun w1 hw1 => c22 (fs := made ls) (gs := made ls) w1 (g15.keep (Kept.new hw1 (by repeat (first | exact List.Mem.head _ | apply List.Mem.tail)))) (g17.keep (Kept.new hw1 (by repeat (first | exact List.Mem.head _ | apply List.Mem.tail))))) ?_
      intro b58 hb58
      obtain rfl : b58 = true := by rw [hb58]; simp
      refine x_bool rfl rfl rfl (v_and rfl rfl) ?_
      intro b59 hb59
      obtain rfl : b59 = true := by rw [hb59]; rfl
      refine x_val rfl rfl rfl (v_move rfl) ?_
      refine x_if [] rfl rfl rfl rfl rfl (fun hg => by obtain ⟨hg0, _⟩ := hg; (try simp only [List.cons_append, List.nil_append, gvl_nil, gvl_t, gvl_f]); exact v_move rfl) ?_
      refine x_if [] rfl rfl rfl rfl rfl (fun hg => by obtain ⟨hg0, _⟩ := hg; (try simp only [List.cons_append, List.nil_append, gvl_nil, gvl_t, gvl_f]); exact v_load_blk (e := 32) (fz := (0, 0)) (cs := [Value.int .u8 97, .int .u8 109, .slice A15 (made ls).length cp15].toArray) Try.underlying32 rfl rfl (List.mem_append_right _ (.tail _ (.head _))) (by exact sz32)) ?_
      refine x_if [] rfl rfl rfl rfl rfl (fun hg => by obtain ⟨hg0, _⟩ := hg; (try simp only [List.cons_append, List.nil_append, gvl_nil, gvl_t, gvl_f]); exact v_move rfl) ?_
      refine x_if [] rfl rfl rfl rfl rfl (fun hg => by obtain ⟨hg0, _⟩ := hg; (try simp only [List.cons_append, List.nil_append, gvl_nil, gvl_t, gvl_f]); exact v_load_blk (e := 32) (fz := (0, 0)) (cs := [Value.int .u8 97, .int .u8 109, .slice A17 (made ls).length cp17].toArray) Try.underlying32 rfl rfl (List.mem_append_right _ (.head _)) (by exact sz32)) ?_
      refine x_call_g rfl rfl rfl rfl rfl Try.func18 (by kernel_rfl) rfl (fun w1 hw1 => c18w (rs := rulesOf xs) (fs := made ls) w1 (g19.keep (Kept.new hw1 (by repeat (first | exact List.Mem.head _ | apply List.Mem.tail)))) (g15.keep (Kept.new hw1 (by repeat (first | exact List.Mem.head _ | apply List.Mem.tail)))) (by have := made_len ls; have := rulesOf_len xs; omega)) ?_
      intro v63 wa63 wb63 hm63 hl63 hr63
      obtain ⟨hrd63, r63, rfl⟩ := hr63
      refine x_call_g rfl rfl rfl rfl rfl Try.func18 (by kernel_rfl) rfl (fun w1 hw1 => c18w (rs := rulesOf xs) (fs := made ls) w1 (g21.keep (Kept.new hw1 (by repeat (first | exact List.Mem.head _ | apply List.Mem.tail)))) (g17.keep (Kept.new hw1 (by repeat (first | exact List.Mem.head _ | apply List.Mem.tail)))) (by have := made_len ls; have := rulesOf_len xs; omega)) ?_
      intro v66 wa66 wb66 hm66 hl66 hr66
      obtain ⟨hrd66, r66, rfl⟩ := hr66
      refine x_call_ifb [] rfl rfl rfl rfl rfl Try.func17 (by kernel_rfl) (fun hg => by obtain ⟨hg0, _⟩ := hg; (try simp only [List.cons_append, List.nil_append, gvl_nil, gvl_t, gvl_f]); refine ⟨_, rfl, ?_⟩; exact fun w1 hw1 => c17 w1 (keep_new hrd63 hw1 (by repeat (first | exact List.Mem.head _ | apply List.Mem.tail)) hm63) (keep_new hrd66 hw1 (by repeat (first | exact List.Mem.head _ | apply List.Mem.tail)) hm66)) ?_
      intro b67 hb67
      obtain rfl : b67 = true := by rw [hb67]; simp
      refine x_bool rfl rfl rfl (v_and rfl rfl) ?_
      intro b68 hb68
      obtain rfl : b68 = true := by rw [hb68]; rfl
      refine x_val rfl rfl rfl (v_move rfl) ?_
      refine x_if [] rfl rfl rfl rfl rfl (fun hg => by obtain ⟨hg0, _⟩ := hg; (try simp only [List.cons_append, List.nil_append, gvl_nil, gvl_t, gvl_f]); exact v_move rfl) ?_
      refine x_if [] rfl rfl rfl rfl rfl (fun hg => by obtain ⟨hg0, _⟩ := hg; (try simp only [List.cons_append, List.nil_append, gvl_nil, gvl_t, gvl_f]); exact v_load_blk (e := 32) (fz := (0, 0)) (cs := [Value.int .u8 97, .int .u8 109, .slice A15 (made ls).length cp15].toArray) Try.underlying32 rfl rfl (List.mem_append_right _ (.tail _ (.head _))) (by exact sz32)) ?_
      refine x_call_ifb [] rfl rfl rfl rfl rfl Try.func19 (by kernel_rfl) (fun hg => by obtain ⟨hg0, _⟩ := hg; (try simp only [List.cons_append, List.nil_append, gvl_nil, gvl_t, gvl_f]); refine ⟨_, rfl, ?_⟩; exact fun w1 hw1 => c19 (rs := rulesOf xs) (fs := made ls) w1 (g19.keep (Kept.new hw1 (by repeat (first | exact List.Mem.head _ | apply List.Mem.tail)))) (g15.keep (Kept.new hw1 (by repeat (first | exact List.Mem.head _ | apply List.Mem.tail)))) (by have := made_len ls; have := rulesOf_len xs; omega)) ?_
      intro b72 hb72
      refine x_if [] rfl rfl rfl rfl rfl (fun hg => by obtain ⟨hg0, _⟩ := hg; (try simp only [List.cons_append, List.nil_append, gvl_nil, gvl_t, gvl_f]); exact v_move rfl) ?_
      refine x_if [] rfl rfl rfl rfl rfl (fun hg => by obtain ⟨hg0, _⟩ := hg; (try simp only [List.cons_append, List.nil_append, gvl_nil, gvl_t, gvl_f]); exact v_len_slice Try.underlying35 rfl) ?_
      refine x_ifb [] rfl rfl rfl rfl rfl (fun hg => by obtain ⟨hg0, _⟩ := hg; (try simp only [List.cons_append, List.nil_append, gvl_nil, gvl_t, gvl_f]); exact v_eql rfl rfl) ?_
      intro b75 hb75
      refine x_ifb [] rfl rfl rfl rfl rfl (fun hg => by obtain ⟨hg0, _⟩ := hg; (try simp only [List.cons_append, List.nil_append, gvl_nil, gvl_t, gvl_f]); exact v_beql rfl rfl Try.underlying4) ?_
      intro b76 hb76
      obtain rfl : b76 = true := by rw [hb76]; exact b_same hb72 hb75
      refine x_bool rfl rfl rfl (v_and rfl rfl) ?_
      intro b77 hb77
      obtain rfl : b77 = true := by rw [hb77]; rfl
      refine x_val rfl rfl rfl (v_assign rfl) ?_
      refine x_end ?_
      refine t_norm ?_
      refine w_ret ?_
      refine ret1 rfl rfl (fun w' hm => ⟨?_, hm.base (by simp)⟩)
      rfl

end Go.Proofs.Ytmihkbciilloaaa
