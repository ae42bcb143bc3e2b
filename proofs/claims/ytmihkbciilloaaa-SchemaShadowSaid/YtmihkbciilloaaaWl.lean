import Derived.Test.YtmihkbciilloaaaWk
namespace Go.Proofs.Ytmihkbciilloaaa
open Go.RowKit Go.PK
set_option linter.unusedVariables false
set_option linter.unusedSimpArgs false

theorem add_new {w w' : World} {own : List (Nat × Obj)} {ro : List Snap} {b : Nat} {o : Obj} (hm : Mem w own ro) (hl : Later w w') (hb : w.heap.size ≤ b) (h : w'.heap[b]? = some o) : Mem w' ((b, o) :: own) ro := by
  have hm' := hm.later hl
  refine ⟨fun p hp => ?_, ?_, hm'.ro_st, hm'.ro_at, fun p hp s hs hd => ?_⟩
  · rcases List.mem_cons.1 hp with rfl | hp
    · exact h
    · exact hm'.own_at p hp
  · simp only [List.map_cons, List.nodup_cons]
    refine ⟨fun hmem => ?_, hm.own_nd⟩
    obtain ⟨p, hp, he⟩ := List.mem_map.1 hmem
    have := hm.lt hp
    omega
  · rcases List.mem_cons.1 hp with rfl | hp
    · have := (hm.ro_st s hs).2.2.2
      show s.1.heap.size ≤ b
      omega
    · exact hm'.apart p hp s hs hd
theorem c12o {own : List (Nat × Obj)} {ro : List Snap} (w : World) (hm : Mem w own ro) : Calls Try.prog 12 #[] w fun e w' => ∃ b, e = .returned (.slice (some ⟨b, 0, none⟩) 24 24) ∧ Later w w' ∧ True ∧ Mem w' ((b, .cells (std.flatMap Rl.cells).toArray 27) :: own) ro :=
  Calls.mono (c12 w) fun e w' ⟨v, h1, h2, b, h3, h4, h5⟩ => ⟨b, h3 ▸ h1, h2, trivial, add_new hm h2 h4 h5⟩
theorem c13o {own : List (Nat × Obj)} {ro : List Snap} (w : World) (hm : Mem w own ro) : Calls Try.prog 13 #[] w fun e w' => ∃ b, e = .returned (.slice (some ⟨b, 0, none⟩) 24 24) ∧ Later w w' ∧ True ∧ Mem w' ((b, .cells (std.flatMap Rl.cells).toArray 27) :: own) ro :=
  Calls.mono (c13 w) fun e w' ⟨v, h1, h2, b, h3, h4, h5⟩ => ⟨b, h3 ▸ h1, h2, trivial, add_new hm h2 h4 h5⟩
theorem flat_std (k : Nat) (hk : k < std.length) (i : Nat) (hi : i < (Rl.cells std[k]).length) : (std.flatMap Rl.cells)[0 + k * 7 + i]? = some (Rl.cells std[k])[i] := by
  rw [Nat.zero_add, flat_get (f := Rl.cells) (m := 7) (fun _ => rfl) std k hk i hi]
  exact List.getElem?_eq_getElem hi
def std0 : Rl := std[0]
def std23 : Rl := std[23]
theorem flat0 (i : Nat) (hi : i < (Rl.cells std0).length) : (std.flatMap Rl.cells)[0 + 0 * 7 + i]? = some (Rl.cells std0)[i] := flat_std 0 (by decide) i hi
theorem flat23 (i : Nat) (hi : i < (Rl.cells std23).length) : (std.flatMap Rl.cells)[0 + 23 * 7 + i]? = some (Rl.cells std23)[i] := flat_std 23 (by decide) i hi
theorem put_get {aw : List Value} {p i : Nat} {v : Value} (hp : p < aw.length) (h : p < i) : (aw.take p ++ [v] ++ aw.drop (p + 1))[i]? = aw[i]? := by
  rw [List.getElem?_append_right (by simp; omega), List.getElem?_drop]
  congr 1
  simp
  omega
set_option maxRecDepth 100000 in
theorem c3 (w : World) :
    Calls Try.prog 3 #[] w fun e w' => e = .returned (.bool (true)) ∧ Later w w' := by
  refine enter (vs := []) Try.func3 rfl Try.ntmps3 rfl ?_
  refine w_seq ?_
  refine rg_text ?_
  refine x_val rfl rfl rfl (v_assign rfl) ?_
  refine x_end ?_
  refine t_norm ?_
  refine w_seq ?_
  refine rg_text ?_
  refine x_callb rfl rfl rfl Try.func11 (by kernel_rfl) rfl (fun w1 hw1 => c11 w1) ?_
  intro b6 hb6
  obtain rfl : b6 = true := hb6
  refine x_val rfl rfl rfl (v_assign rfl) ?_
  refine x_end ?_
  refine t_norm ?_
  refine w_seq ?_
  refine rg_text ?_
  refine x_own (τ := Nat) (fun b => .slice (some ⟨b, 0, none⟩) 24 24) (fun _ => True) (fun b => (b, Obj.cells (std.flatMap Rl.cells).toArray 27) :: []) rfl rfl rfl Try.func12 (by kernel_rfl) rfl (fun w1 hw1 => c12o w1 hw1) ?_
  intro bA _
  refine x_own (τ := Nat) (fun b => .slice (some ⟨b, 0, none⟩) 24 24) (fun _ => True) (fun b => (b, Obj.cells (std.flatMap Rl.cells).toArray 27) :: [(bA, Obj.cells (std.flatMap Rl.cells).toArray 27)]) rfl rfl rfl Try.func13 (by kernel_rfl) rfl (fun w1 hw1 => c13o w1 hw1) ?_
  intro bB _
  refine x_val rfl rfl rfl (v_assign rfl) ?_
  refine x_val rfl rfl rfl (v_assign rfl) ?_
  refine x_end ?_
  refine t_norm ?_
  refine w_seq ?_
  refine w_seq ?_
  refine rg_text ?_
  refine x_val rfl rfl rfl (v_move rfl) ?_
  refine x_val rfl rfl rfl (v_len_slice Try.underlying23 rfl) ?_
  refine x_val rfl rfl rfl (v_move rfl) ?_
  refine x_val rfl rfl rfl (v_len_slice Try.underlying23 rfl) ?_
  refine x_bool rfl rfl rfl (v_neq rfl rfl) ?_
  intro b13 hb13
  refine x_end ?_
  refine t_norm ?_
  refine w_cond rfl (fun hc13 => ?_) (fun hc13 => ?_)
  · exact absurd hc13 (by rw [hb13]; simp)
  · simp only [hb13, decide_eq_true_eq, decide_eq_false_iff_not, Bool.and_eq_true, Bool.or_eq_true, Bool.and_eq_false_iff, Bool.or_eq_false_iff, Bool.not_eq_true', Bool.not_eq_false', ne_eq, Decidable.not_not] at hc13
    refine w_skip ?_
    refine t_norm ?_
    refine w_seq ?_
    refine w_seq ?_
    refine rg_text ?_
    refine x_val rfl rfl rfl (v_move rfl) ?_
    refine x_val rfl rfl rfl (v_len_slice Try.underlying23 rfl) ?_
    refine x_val rfl rfl rfl (v_move rfl) ?_
    refine x_end ?_
    refine t_norm ?_
    refine w_block ?_
    refine w_loop (σ := Nat × List Value) (fun x => x.1 ≤ 24 ∧ x.2.length = 168 ∧ ∀ i, x.1 * 7 ≤ i → x.2[i]? = (std.flatMap Rl.cells)[i]?) (fun x => [(1, .bool true), (2, .slice (some ⟨bA, 0, none⟩) 24 24), (3, .slice (some ⟨bB, 0, none⟩) 24 24), (15, Value.int .i64 (24 : Nat)), (16, Value.int .i64 (x.1 : Nat))]) (fun x => [(bB, Obj.cells (std.flatMap Rl.cells).toArray 27), (bA, Obj.cells x.2.toArray 27)]) (fun x => [(w, fun _ => True)]) (fun x => 24 - x.1) ((0, (std.flatMap Rl.cells))) (⟨by omega, by kernel_rfl, fun _ _ => rfl⟩) (l_start (by repeat (first | exact Sub.nil | refine Sub.cons rfl ?_)) (fun _ h => h)) ?_
    rintro ⟨k, aw⟩ ⟨hk, hlen, hall⟩
    dsimp only at hk hlen hall
    refine w_seq ?_
    refine rg_text ?_
    refine x_bool rfl rfl rfl (v_lss rfl rfl) ?_
    intro b17 hb17
    refine x_end ?_
    refine t_norm ?_
    refine w_seq ?_
    refine w_cond rfl (fun hc17 => ?_) (fun hc17 => ?_)
    · simp only [hb17, decide_eq_true_eq, decide_eq_false_iff_not, Bool.and_eq_true, Bool.or_eq_true, Bool.and_eq_false_iff, Bool.or_eq_false_iff, Bool.not_eq_true', Bool.not_eq_false', ne_eq, Decidable.not_not] at hc17
      have hk1 : k < 24 := by omega
      have hks : k < std.length := hk1
      refine w_skip ?_
      refine t_norm ?_
      refine w_seq ?_
      refine w_block ?_
      refine w_seq ?_
      refine rg_text ?_
      refine x_val rfl rfl rfl (v_move rfl) ?_
      refine x_val rfl rfl rfl (v_assign rfl) ?_
      refine x_end ?_
      refine t_norm ?_
      refine w_seq ?_
      refine w_seq ?_
      refine rg_draw 9 [(true, 0), (true, 1), (true, 2), (true, 3), (true, 4), (true, 5), (true, 6), (true, 7), (true, 8)] (by kernel_rfl) (by kernel_rfl) ?_
      refine x_val rfl rfl rfl (v_move rfl) ?_
      refine x_val rfl rfl rfl (v_move rfl) ?_
      refine x_val rfl rfl rfl (v_indexAddr Try.underlying23 sz27 rfl rfl (by first | omega | (dsimp only; omega)) rfl) ?_
      refine x_val rfl rfl rfl ((by refine v_loadN (vs := [Value.string std[k].tag, .bool std[k].must, .bool std[k].once, .string std[k].i0, .string std[k].i1, .string std[k].codes, .string std[k].single]) Try.underlying27 rfl sz27 rfl ?_; exact fun i hi => at_ownL (vs := aw) (.tail _ (.head _)) ((hall _ (by omega)).trans (flat_std k hks i hi)))) ?_
      refine x_val rfl rfl rfl (v_move rfl) ?_
      refine x_val rfl rfl rfl (v_move rfl) ?_
      refine x_val rfl rfl rfl (v_indexAddr Try.underlying23 sz27 rfl rfl (by first | omega | (dsimp only; omega)) rfl) ?_
      refine x_val rfl rfl rfl ((by refine v_loadN (vs := [Value.string std[k].tag, .bool std[k].must, .bool std[k].once, .string std[k].i0, .string std[k].i1, .string std[k].codes, .string std[k].single]) Try.underlying27 rfl sz27 rfl ?_; exact fun i hi => at_ownL (vs := (std.flatMap Rl.cells)) (.head _) (flat_std k hks i hi))) ?_
      refine x_bool rfl rfl rfl (v_neA (by kernel_rfl) rfl rfl (fun w1 => eq27 w1 std[k] std[k])) ?_
      intro b27 hb27
      refine x_end ?_
      refine t_norm ?_
      refine w_cond rfl (fun hc27 => ?_) (fun hc27 => ?_)
      · exact absurd hc27 (by rw [hb27]; simp)
      · simp only [hb27, decide_eq_true_eq, decide_eq_false_iff_not, Bool.and_eq_true, Bool.or_eq_true, Bool.and_eq_false_iff, Bool.or_eq_false_iff, Bool.not_eq_true', Bool.not_eq_false', ne_eq, Decidable.not_not] at hc27
        refine w_skip ?_
        refine t_norm ?_
        refine rg_text ?_
        refine x_val rfl rfl rfl (v_move rfl) ?_
        refine x_val rfl rfl rfl (v_move rfl) ?_
        refine x_val rfl rfl rfl (v_indexAddr Try.underlying23 sz27 rfl rfl (by first | omega | (dsimp only; omega)) rfl) ?_
        refine x_val rfl rfl rfl (v_fieldAddr (off' := 0 + k * 7) Try.underlying27 rfl sz9 (by decide) rfl rfl) ?_
        refine x_store [(bB, _)] rfl rfl rfl rfl sz9 rfl (by rw [hlen]; omega) ?_
        refine x_end ?_
        refine b_norm ?_
        refine t_norm ?_
        refine rg_text ?_
        refine x_val rfl rfl rfl (v_addi rfl rfl rfl (by first | omega | (dsimp only; omega))) ?_
        refine x_val rfl rfl rfl (v_move rfl) ?_
        refine x_end ?_
        refine l_norm (k + 1, aw.take (0 + k * 7) ++ [Value.string ⟨#[53, 53, 53]⟩] ++ aw.drop (0 + k * 7 + 1)) ⟨by omega, by simp [hlen]; omega, fun i hi => (put_get (by omega) (by simp only at hi; omega)).trans (hall i (by simp only at hi; omega))⟩ (by simp only; omega) (by repeat (first | exact Sub.nil | refine Sub.cons rfl ?_)) (fun _ h => h)
    · simp only [hb17, decide_eq_true_eq, decide_eq_false_iff_not, Bool.and_eq_true, Bool.or_eq_true, Bool.and_eq_false_iff, Bool.or_eq_false_iff, Bool.not_eq_true', Bool.not_eq_false', ne_eq, Decidable.not_not] at hc17
      refine w_exit ?_
      refine t_exit ?_
      refine t_exit ?_
      refine b_hit ?_
      refine t_norm ?_
      refine w_seq ?_
      refine rg_text ?_
      refine x_own (τ := Nat) (fun b => .slice (some ⟨b, 0, none⟩) 24 24) (fun _ => True) (fun b => (b, Obj.cells (std.flatMap Rl.cells).toArray 27) :: [(bB, Obj.cells (std.flatMap Rl.cells).toArray 27), (bA, Obj.cells aw.toArray 27)]) rfl rfl rfl Try.func12 (by kernel_rfl) rfl (fun w1 hw1 => c12o w1 hw1) ?_
      intro bC _
      refine x_val rfl rfl rfl (v_assign rfl) ?_
      refine x_end ?_
      refine t_norm ?_
      refine w_seq ?_
      refine rg_draw 33 [(true, 0), (true, 1), (true, 2), (true, 3), (true, 4), (true, 5), (true, 6), (true, 7), (true, 8), (true, 9), (true, 10), (true, 11), (true, 12), (true, 13), (true, 14), (true, 15), (true, 16), (true, 17), (true, 18), (true, 19), (true, 20), (true, 21), (true, 22), (true, 23), (true, 24), (true, 25), (true, 26), (true, 27), (true, 28), (true, 29), (true, 30), (true, 31), (true, 32)] (by kernel_rfl) (by kernel_rfl) ?_
      refine x_val rfl rfl rfl (v_move rfl) ?_
      refine x_val rfl rfl rfl (v_move rfl) ?_
      refine x_if [] rfl rfl rfl rfl rfl (fun hg => by obtain ⟨hg0, _⟩ := hg; (try simp only [List.cons_append, List.nil_append, gvl_nil, gvl_t, gvl_f]); exact v_move rfl) ?_
      refine x_if [] rfl rfl rfl rfl rfl (fun hg => by obtain ⟨hg0, _⟩ := hg; (try simp only [List.cons_append, List.nil_append, gvl_nil, gvl_t, gvl_f]); exact v_len_slice Try.underlying23 rfl) ?_
      refine x_if [] rfl rfl rfl rfl rfl (fun hg => by obtain ⟨hg0, _⟩ := hg; (try simp only [List.cons_append, List.nil_append, gvl_nil, gvl_t, gvl_f]); exact v_move rfl) ?_
      refine x_if [] rfl rfl rfl rfl rfl (fun hg => by obtain ⟨hg0, _⟩ := hg; (try simp only [List.cons_append, List.nil_append, gvl_nil, gvl_t, gvl_f]); exact v_len_slice Try.underlying23 rfl) ?_
      refine x_ifb [] rfl rfl rfl rfl rfl (fun hg => by obtain ⟨hg0, _⟩ := hg; (try simp only [List.cons_append, List.nil_append, gvl_nil, gvl_t, gvl_f]); exact v_eql rfl rfl) ?_
      intro b40 hb40
      obtain rfl : b40 = true := by rw [hb40]; rfl
      refine x_bool rfl rfl rfl (v_and rfl rfl) ?_
      intro b41 hb41
      obtain rfl : b41 = true := by rw [hb41]; rfl
      refine x_val rfl rfl rfl (v_move rfl) ?_
      refine x_if [] rfl rfl rfl rfl rfl (fun hg => by obtain ⟨hg0, _⟩ := hg; (try simp only [List.cons_append, List.nil_append, gvl_nil, gvl_t, gvl_f]); exact v_move rfl) ?_
      refine x_if [] rfl rfl rfl rfl rfl (fun hg => by obtain ⟨hg0, _⟩ := hg; (try simp only [List.cons_append, List.nil_append, gvl_nil, gvl_t, gvl_f]); exact v_indexAddr (j := 0) Try.underlying23 sz27 rfl rfl (by first | omega | (dsimp only; omega)) rfl) ?_
      refine x_if [] rfl rfl rfl rfl rfl (fun hg => by obtain ⟨hg0, _⟩ := hg; (try simp only [List.cons_append, List.nil_append, gvl_nil, gvl_t, gvl_f]); exact (by refine v_loadN (vs := [Value.string std0.tag, .bool std0.must, .bool std0.once, .string std0.i0, .string std0.i1, .string std0.codes, .string std0.single]) Try.underlying27 rfl sz27 rfl ?_; exact fun i hi => at_ownL (vs := (std.flatMap Rl.cells)) (.head _) (flat0 i hi))) ?_
      refine x_if [] rfl rfl rfl rfl rfl (fun hg => by obtain ⟨hg0, _⟩ := hg; (try simp only [List.cons_append, List.nil_append, gvl_nil, gvl_t, gvl_f]); exact v_move rfl) ?_
      refine x_if [] rfl rfl rfl rfl rfl (fun hg => by obtain ⟨hg0, _⟩ := hg; (try simp only [List.cons_append, List.nil_append, gvl_nil, gvl_t, gvl_f]); exact v_indexAddr (j := 0) Try.underlying23 sz27 rfl rfl (by first | omega | (dsimp only; omega)) rfl) ?_
      refine x_if [] rfl rfl rfl rfl rfl (fun hg => by obtain ⟨hg0, _⟩ := hg; (try simp only [List.cons_append, List.nil_append, gvl_nil, gvl_t, gvl_f]); exact (by refine v_loadN (vs := [Value.string std0.tag, .bool std0.must, .bool std0.once, .string std0.i0, .string std0.i1, .string std0.codes, .string std0.single]) Try.underlying27 rfl sz27 rfl ?_; exact fun i hi => at_ownL (vs := (std.flatMap Rl.cells)) (.tail _ (.head _)) (flat0 i hi))) ?_
      refine x_ifb [] rfl rfl rfl rfl rfl (fun hg => by obtain ⟨hg0, _⟩ := hg; (try simp only [List.cons_append, List.nil_append, gvl_nil, gvl_t, gvl_f]); exact v_eqA (by kernel_rfl) rfl rfl (fun w1 => eq27 w1 std0 std0)) ?_
      intro b49 hb49
      obtain rfl : b49 = true := by rw [hb49]; simp
      refine x_bool rfl rfl rfl (v_and rfl rfl) ?_
      intro b50 hb50
      obtain rfl : b50 = true := by rw [hb50]; rfl
      refine x_val rfl rfl rfl (v_move rfl) ?_
      refine x_if [] rfl rfl rfl rfl rfl (fun hg => by obtain ⟨hg0, _⟩ := hg; (try simp only [List.cons_append, List.nil_append, gvl_nil, gvl_t, gvl_f]); exact v_move rfl) ?_
      refine x_if [] rfl rfl rfl rfl rfl (fun hg => by obtain ⟨hg0, _⟩ := hg; (try simp only [List.cons_append, List.nil_append, gvl_nil, gvl_t, gvl_f]); exact v_move rfl) ?_
      refine x_if [] rfl rfl rfl rfl rfl (fun hg => by obtain ⟨hg0, _⟩ := hg; (try simp only [List.cons_append, List.nil_append, gvl_nil, gvl_t, gvl_f]); exact v_len_slice Try.underlying23 rfl) ?_
      refine x_if [] rfl rfl rfl rfl rfl (fun hg => by obtain ⟨hg0, _⟩ := hg; (try simp only [List.cons_append, List.nil_append, gvl_nil, gvl_t, gvl_f]); exact v_subi rfl rfl rfl (by first | omega | (dsimp only; omega))) ?_
      refine x_if [] rfl rfl rfl rfl rfl (fun hg => by obtain ⟨hg0, _⟩ := hg; (try simp only [List.cons_append, List.nil_append, gvl_nil, gvl_t, gvl_f]); exact v_indexAddr (j := 23) Try.underlying23 sz27 rfl rfl (by first | omega | (dsimp only; omega)) rfl) ?_
      refine x_if [] rfl rfl rfl rfl rfl (fun hg => by obtain ⟨hg0, _⟩ := hg; (try simp only [List.cons_append, List.nil_append, gvl_nil, gvl_t, gvl_f]); exact (by refine v_loadN (vs := [Value.string std23.tag, .bool std23.must, .bool std23.once, .string std23.i0, .string std23.i1, .string std23.codes, .string std23.single]) Try.underlying27 rfl sz27 rfl ?_; exact fun i hi => at_ownL (vs := (std.flatMap Rl.cells)) (.head _) (flat23 i hi))) ?_
      refine x_if [] rfl rfl rfl rfl rfl (fun hg => by obtain ⟨hg0, _⟩ := hg; (try simp only [List.cons_append, List.nil_append, gvl_nil, gvl_t, gvl_f]); exact v_move rfl) ?_
      refine x_if [] rfl rfl rfl rfl rfl (fun hg => by obtain ⟨hg0, _⟩ := hg; (try simp only [List.cons_append, List.nil_append, gvl_nil, gvl_t, gvl_f]); exact v_move rfl) ?_
      refine x_if [] rfl rfl rfl rfl rfl (fun hg => by obtain ⟨hg0, _⟩ := hg; (try simp only [List.cons_append, List.nil_append, gvl_nil, gvl_t, gvl_f]); exact v_len_slice Try.underlying23 rfl) ?_
      refine x_if [] rfl rfl rfl rfl rfl (fun hg => by obtain ⟨hg0, _⟩ := hg; (try simp only [List.cons_append, List.nil_append, gvl_nil, gvl_t, gvl_f]); exact v_subi rfl rfl rfl (by first | omega | (dsimp only; omega))) ?_
      refine x_if [] rfl rfl rfl rfl rfl (fun hg => by obtain ⟨hg0, _⟩ := hg; (try simp only [List.cons_append, List.nil_append, gvl_nil, gvl_t, gvl_f]); exact v_indexAddr (j := 23) Try.underlying23 sz27 rfl rfl (by first | omega | (dsimp only; omega)) rfl) ?_
      refine x_if [] rfl rfl rfl rfl rfl (fun hg => by obtain ⟨hg0, _⟩ := hg; (try simp only [List.cons_append, List.nil_append, gvl_nil, gvl_t, gvl_f]); exact (by refine v_loadN (vs := [Value.string std23.tag, .bool std23.must, .bool std23.once, .string std23.i0, .string std23.i1, .string std23.codes, .string std23.single]) Try.underlying27 rfl sz27 rfl ?_; exact fun i hi => at_ownL (vs := (std.flatMap Rl.cells)) (.tail _ (.head _)) (flat23 i hi))) ?_
      refine x_ifb [] rfl rfl rfl rfl rfl (fun hg => by obtain ⟨hg0, _⟩ := hg; (try simp only [List.cons_append, List.nil_append, gvl_nil, gvl_t, gvl_f]); exact v_eqA (by kernel_rfl) rfl rfl (fun w1 => eq27 w1 std23 std23)) ?_
      intro b64 hb64
      obtain rfl : b64 = true := by rw [hb64]; simp
      refine x_bool rfl rfl rfl (v_and rfl rfl) ?_
      intro b65 hb65
      obtain rfl : b65 = true := by rw [hb65]; rfl
      refine x_val rfl rfl rfl (v_assign rfl) ?_
      refine x_end ?_
      refine t_norm ?_
      refine w_ret ?_
      refine ret1 rfl rfl (fun w' hm => ⟨?_, hm.base (by simp)⟩)
      rfl

end Go.Proofs.Ytmihkbciilloaaa
