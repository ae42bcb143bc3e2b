/- Of the proofs of YtaniaihoodgmpaaGreatDoor: Ua Ub Uc Ud Ue Uf Ug Uh Ui, put together. -/
import Derived.Test.YtaniaihoodgmpaaGreatDoorM5
import Derived.Test.YtaniaihoodgmpaaGreatDoorM2
import Derived.Test.YtaniaihoodgmpaaGreatDoorM1
import Derived.Test.YtaniaihoodgmpaaGreatDoorM3
import Derived.Test.YtaniaihoodgmpaaGreatDoorM4
namespace Go.Proofs.YtaniaihoodgmpaaGreatDoor
open Go.RowKit Go.PK
set_option linter.unusedVariables false
set_option linter.unusedSimpArgs false
theorem ap5 : (Tryz.prog.info? 5).map (fun j => (j.zero, j.size, j.bytes)) = some (some (.int .u8 0), 1, 1) := by kernel_rfl
theorem lies66 : liesAt Tryz.prog Tryz.prog.depth 130 ((#[Value.nilIface, Value.nilIface] : Array Value).size / Tryz.prog.cellsOf 130) 0 130 1 = true := by kernel_rfl
set_option maxRecDepth 100000 in
theorem c_cc0 {l2 : List (Nat × Obj)} {ro : List Snap} {p : Nat} {r : RowS} {bs : List UInt8} (w : World) (hm : Mem w ((bld2 130 5 p (.pointer none) r (bs.length)) ++ l2) ro) :
    Calls Tryz.prog 110 #[.pointer (some ⟨p, 0, none⟩)] w fun e w' => e = .returned (.tuple #[]) ∧ Mem w' ((bld2 130 5 p (.pointer (some ⟨p, 0, none⟩)) r (bs.length)) ++ l2) ro := by
  refine enter_in hm (vs := [.pointer (some ⟨p, 0, none⟩)]) Tryz.func110 rfl Tryz.ntmps110 rfl ?_
  refine w_seq ?_
  refine rg_text ?_
  refine x_val rfl rfl rfl (v_move rfl) ?_
  refine x_val rfl rfl rfl (v_nilCheck rfl) ?_
  refine x_val rfl rfl rfl (v_fieldAddr (off' := 0) Tryz.underlying130 rfl sz128 (by decide) rfl rfl) ?_
  refine x_val rfl rfl rfl (v_load Tryz.underlying128 rfl rfl (at_ownL (vs := [(.pointer none), rowV r bs.length]) (.head _) rfl)) ?_
  refine x_bool rfl rfl rfl (v_pnil Tryz.underlying128 rfl rfl) ?_
  intro b6 hb6
  refine x_end ?_
  refine t_norm ?_
  refine w_cond rfl (fun hc6 => ?_) (fun hc6 => ?_)
  · skip
    refine rg_text ?_
    refine x_val rfl rfl rfl (v_move rfl) ?_
    refine x_val rfl rfl rfl (v_move rfl) ?_
    refine x_val rfl rfl rfl (v_toUns (e := 130) (cs := #[(.pointer none), rowV r bs.length]) (fz := (0, 0)) (m := 1) Tryz.underlying128 Tryz.underlying170 sz130 rfl (.head _) (show 0 < 2 by decide)) ?_
    refine x_val rfl rfl rfl (v_noEsc Tryz.func133 (by kernel_rfl) (by kernel_rfl) (by kernel_rfl) (by kernel_rfl) rfl) ?_
    refine x_val rfl rfl rfl (v_fromUns (e := 130) (cs := #[(.pointer none), rowV r bs.length]) (fz := (0, 0)) Tryz.underlying170 Tryz.underlying128 ⟨_, (Option.map_eq_some_iff.1 sz130).choose_spec.1⟩ rfl (.head _) lies66) ?_
    refine x_val rfl rfl rfl (v_nilCheck rfl) ?_
    refine x_val rfl rfl rfl (v_fieldAddr (off' := 0) Tryz.underlying130 rfl sz128 (by decide) rfl rfl) ?_
    refine x_store [] rfl rfl rfl rfl sz128 rfl (by show 1 ≤ 2; decide) ?_
    refine x_end ?_
    exact ret0 rfl (fun w' hm' => ⟨rfl, hm'⟩)
  · rw [hb6] at hc6; cases hc6
set_option maxRecDepth 100000 in
theorem c_cc1 {l2 : List (Nat × Obj)} {ro : List Snap} {p : Nat} {r : RowS} {bs : List UInt8} (w : World) (hm : Mem w ((bld2 130 5 p (.pointer (some ⟨p, 0, none⟩)) r (bs.length)) ++ l2) ro) :
    Calls Tryz.prog 110 #[.pointer (some ⟨p, 0, none⟩)] w fun e w' => e = .returned (.tuple #[]) ∧ Mem w' ((bld2 130 5 p (.pointer (some ⟨p, 0, none⟩)) r (bs.length)) ++ l2) ro := by
  refine enter_in hm (vs := [.pointer (some ⟨p, 0, none⟩)]) Tryz.func110 rfl Tryz.ntmps110 rfl ?_
  refine w_seq ?_
  refine rg_text ?_
  refine x_val rfl rfl rfl (v_move rfl) ?_
  refine x_val rfl rfl rfl (v_nilCheck rfl) ?_
  refine x_val rfl rfl rfl (v_fieldAddr (off' := 0) Tryz.underlying130 rfl sz128 (by decide) rfl rfl) ?_
  refine x_val rfl rfl rfl (v_load Tryz.underlying128 rfl rfl (at_ownL (vs := [(.pointer (some ⟨p, 0, none⟩)), rowV r bs.length]) (.head _) rfl)) ?_
  refine x_bool rfl rfl rfl (v_pnil Tryz.underlying128 rfl rfl) ?_
  intro b6 hb6
  refine x_end ?_
  refine t_norm ?_
  refine w_cond rfl (fun hc6 => ?_) (fun hc6 => ?_)
  · rw [hb6] at hc6; cases hc6
  · skip
    refine w_seq ?_
    refine rg_text ?_
    refine x_val rfl rfl rfl (v_move rfl) ?_
    refine x_val rfl rfl rfl (v_nilCheck rfl) ?_
    refine x_val rfl rfl rfl (v_fieldAddr (off' := 0) Tryz.underlying130 rfl sz128 (by decide) rfl rfl) ?_
    refine x_val rfl rfl rfl (v_load Tryz.underlying128 rfl rfl (at_ownL (vs := [(.pointer (some ⟨p, 0, none⟩)), rowV r bs.length]) (.head _) rfl)) ?_
    refine x_val rfl rfl rfl (v_move rfl) ?_
    refine x_bool rfl rfl rfl (v_pne Tryz.underlying128 (Option.map_eq_some_iff.1 sz130).choose_spec.1 rfl rfl) ?_
    intro b19 hb19
    refine x_end ?_
    refine t_norm ?_
    refine w_cond rfl (fun hc19 => ?_) (fun hc19 => ?_)
    · rw [hb19] at hc19; cases hc19
    · skip
      refine w_skip ?_
      exact ret0 rfl (fun w' hm' => ⟨rfl, hm'⟩)
theorem c_cc {l2 : List (Nat × Obj)} {ro : List Snap} {p : Nat} {pp : Value} {r : RowS} {bs : List UInt8} (w : World) (hm : Mem w ((bld2 130 5 p pp r (bs.length)) ++ l2) ro) (hp : ppOK p pp) :
    Calls Tryz.prog 110 #[.pointer (some ⟨p, 0, none⟩)] w fun e w' => e = .returned (.tuple #[]) ∧ Mem w' ((bld2 130 5 p (.pointer (some ⟨p, 0, none⟩)) r (bs.length)) ++ l2) ro := by
  rcases hp with rfl | rfl
  · exact c_cc0 w hm
  · exact c_cc1 w hm
theorem c_BS {l2 : List (Nat × Obj)} {ro : List Snap} {p : Nat} {pp : Value} {r : RowS} {bs : List UInt8} (w : World) (hm : Mem w ((bld2 130 5 p pp r (bs.length)) ++ l2) ro) (hp : ppOK p pp) (hr : rowOK 1 r bs.length (byC bs)) {B : Nat} (hB : ∀ s ∈ ro, s.1.heap.size ≤ B) (h2 : ∀ q ∈ l2, q.1 < B) (hb : ∀ q ∈ (bld2 130 5 p pp r (bs.length)), B ≤ q.1) (hBw : B ≤ w.heap.size) :
    Calls Tryz.prog 83 #[.pointer (some ⟨p, 0, none⟩)] w fun e w' => e = .returned (.string ⟨bs.toArray⟩) ∧ Mem w' l2 ro :=
  (Tryz.Builder_String_any_k B p bs w (bld2_is hm hp hr rfl hb) hBw).mono fun e w' ⟨h1, _, h3, _⟩ => ⟨h1, hm.after hB h2 h3⟩
set_option maxRecDepth 100000 in
theorem c_WS {l2 : List (Nat × Obj)} {ro : List Snap} {p : Nat} {pp : Value} {r : RowS} {bs : List UInt8} (w : World) (hm : Mem w ((bld2 130 5 p pp r (bs.length)) ++ l2) ro) (hp : ppOK p pp) (t : ByteArray) (hr : rowOK 1 r bs.length (byC bs)) (hl : bs.length ≤ 4000000000000) (ht : t.size ≤ 4000000000000) :
    Calls Tryz.prog 81 #[.pointer (some ⟨p, 0, none⟩), .string t] w fun e w' => e = .returned (.tuple #[.int .i64 (t.size : Nat), .nilIface]) ∧ ∃ r', rowOK 1 r' (bs ++ bl t).length (byC (bs ++ bl t)) ∧ Mem w' ((bld2 130 5 p (.pointer (some ⟨p, 0, none⟩)) r' ((bs ++ bl t).length)) ++ l2) ro := by
  refine enter_in hm (vs := [.pointer (some ⟨p, 0, none⟩), .string t]) Tryz.func81 rfl Tryz.ntmps81 rfl ?_
  refine w_seq ?_
  refine rg_text ?_
  refine x_val rfl rfl rfl (v_assign rfl) ?_
  refine x_val rfl rfl rfl (v_assign rfl) ?_
  refine x_end ?_
  refine t_norm ?_
  refine w_seq ?_
  refine rg_text ?_
  refine x_val rfl rfl rfl (v_move rfl) ?_
  refine x_turnf (τ := Unit) (v := .tuple #[]) (fun _ => True) (fun _ => (bld2 130 5 p (.pointer (some ⟨p, 0, none⟩)) r (bs.length)) ++ l2) rfl rfl Tryz.func110 (by kernel_rfl) rfl (fun w1 hw1 => by have hc := c_cc w1 hw1 hp; exact hc.mono fun e w2 h => ⟨h.1, (), trivial, h.2⟩) ?_
  intro _ _
  refine x_end ?_
  refine t_norm ?_
  refine w_seq ?_
  refine rg_text ?_
  refine x_val rfl rfl rfl (v_move rfl) ?_
  refine x_val rfl rfl rfl (v_move rfl) ?_
  refine x_val rfl rfl rfl (v_nilCheck rfl) ?_
  refine x_val rfl rfl rfl (v_fieldAddr (off' := 1) Tryz.underlying130 rfl sz45 (by decide) rfl rfl) ?_
  refine x_val rfl rfl rfl (v_load Tryz.underlying45 rfl rfl (at_ownL (vs := [(.pointer (some ⟨p, 0, none⟩)), rowV r bs.length]) (.head _) rfl)) ?_
  refine x_val rfl rfl rfl (v_move rfl) ?_
  refine x_append_str (e := 5) [(p, _)] (l2 := l2) r (len := bs.length) (xs := byC bs) rfl rfl rfl rfl rfl hr Tryz.underlying45 Tryz.underlying9 ap5 (by simp only [maxLen]; omega) (by omega) ?_
  intro r' hr'
  refine x_val rfl rfl rfl (v_nilCheck rfl) ?_
  refine x_val rfl rfl rfl (v_fieldAddr (off' := 1) Tryz.underlying130 rfl sz45 (by decide) rfl rfl) ?_
  refine x_store [] rfl rfl rfl rfl sz45 rfl (by show 2 ≤ 2; decide) ?_
  refine x_end ?_
  refine t_norm ?_
  refine w_seq ?_
  refine rg_text ?_
  refine x_val rfl rfl rfl (v_move rfl) ?_
  refine x_val rfl rfl rfl (v_len_str Tryz.underlying9 rfl) ?_
  refine x_val rfl rfl rfl (v_assign rfl) ?_
  refine x_val rfl rfl rfl (v_assign rfl) ?_
  refine x_end ?_
  refine t_norm ?_
  refine w_ret ?_
  refine ret2 rfl rfl rfl (fun w' hm' => ⟨rfl, r', ?_, ?_⟩)
  · rw [byC_app, List.length_append, bl_len]; exact hr'
  · rw [List.length_append, bl_len]; exact hm'
set_option maxRecDepth 100000 in
theorem c_groups (n : Nat) (w : World) :
    Calls Tryz.prog 111 #[.int .u64 (n : Nat)] w fun e w' => ∃ Bs, e = .returned (.func (.func 134) #[] #[.pointer (some ⟨Bs, 0, none⟩)]) ∧ Later w w' ∧ Mem w' [(Bs, Obj.cells [Value.int .u64 ((n : Nat) : Int)].toArray 107 (0, 0))] [(w, fun _ => True)] := by
  refine enter (vs := [.int .u64 (n : Nat)]) Tryz.func111 rfl Tryz.ntmps111 rfl ?_
  refine w_seq ?_
  refine rg_text ?_
  refine x_box rfl rfl rfl rfl ?_
  intro p1
  refine x_val rfl rfl rfl (v_assign rfl) ?_
  refine x_end ?_
  refine t_norm ?_
  refine w_seq ?_
  refine rg_text ?_
  refine x_val rfl rfl rfl (v_func rfl) ?_
  refine x_val rfl rfl rfl (v_assign rfl) ?_
  refine x_end ?_
  refine t_norm ?_
  refine w_ret ?_
  exact ret1 rfl rfl (fun w' hm => ⟨p1, rfl, hm.base (by simp), hm⟩)
theorem retn {P : Program} {n : Nat} {l : List (Nat × Value)} {own : List (Nat × Obj)} {ro : List Snap} {R : Ending → World → Prop} {fn : Func} (hr : fn.results = #[]) (h : ∀ w', Mem w' own ro → R (.returned (.tuple #[])) w') : S (bodyPost P fn R .ret) n l own ro := ret0 hr h
set_option maxHeartbeats 1000000 in
set_option maxRecDepth 100000 in
theorem c_groups1 {w : World} {ro : List Snap} {L Bs : Nat} (X : RowS → Nat → List (Nat × Obj)) (n : Nat) (hn : n < 18446744073709551616) (hm : Mem w ((Bs, Obj.cells [Value.int .u64 ((n : Nat) : Int)].toArray 107 (0, 0)) :: X none 0) ro) (hY : ∀ (bs : List UInt8) (v : Nat) (r : RowS) (w1 : World), rowOK 1 r bs.length (byC bs) → bs.length ≤ 9 → v < 18446744073709551616 → Mem w1 ((Bs, Obj.cells [Value.int .u64 ((v / 128 : Nat) : Int)].toArray 107 (0, 0)) :: X r bs.length) ro → YieldAt Fence.wide (2 - 1) Tryz.prog L [Value.int .u8 (((UInt8.ofNat (v % 128)).toNat : Nat) : Int), Value.bool (decide (((v / 128 : Nat) : Int) > 0))].toArray w1 fun e w2 => e = .returned (.bool true) ∧ ∃ r', rowOK 1 r' (bs ++ [(if v / 128 > 0 then UInt8.ofNat (v % 128 + 128) else UInt8.ofNat (v % 128))]).length (byC (bs ++ [(if v / 128 > 0 then UInt8.ofNat (v % 128 + 128) else UInt8.ofNat (v % 128))])) ∧ Mem w2 ((Bs, Obj.cells [Value.int .u64 ((v / 128 : Nat) : Int)].toArray 107 (0, 0)) :: X r' (bs ++ [(if v / 128 > 0 then UInt8.ofNat (v % 128 + 128) else UInt8.ofNat (v % 128))]).length) ro) :
    Calls Tryz.prog 134 #[.func (.yield L) #[] #[], .pointer (some ⟨Bs, 0, none⟩)] w fun e w' => (∃ v, e = .returned v) ∧ ∃ r' v', rowOK 1 r' (numG n).length (byC (numG n)) ∧ Mem w' ((Bs, Obj.cells [Value.int .u64 ((v' : Nat) : Int)].toArray 107 (0, 0)) :: X r' (numG n).length) ro := by
  refine enter_in hm (vs := [.func (.yield L) #[] #[], .pointer (some ⟨Bs, 0, none⟩)]) Tryz.func134 rfl Tryz.ntmps134 rfl ?_
  refine w_block ?_
  refine w_loop (σ := List UInt8 × Nat × RowS) (fun x => x.1 ++ numG x.2.1 = numG n ∧ rowOK 1 x.2.2 x.1.length (byC x.1) ∧ x.2.1 < 18446744073709551616) (fun x => [(0, Value.func (.yield L) #[] #[]), (1, Value.pointer (some ⟨Bs, 0, none⟩))]) (fun x => (Bs, Obj.cells [Value.int .u64 ((x.2.1 : Nat) : Int)].toArray 107 (0, 0)) :: X x.2.2 x.1.length) (fun x => ro) (fun x => x.2.1) (([], n, none)) (⟨rfl, rowOK_nil, hn⟩) (l_start (by repeat (first | exact Sub.nil | refine Sub.cons rfl ?_)) (fun _ h => h)) ?_
  rintro ⟨bs, v, r⟩ ⟨hbs, hr, hv⟩
  refine w_state ([(0, Value.func (.yield L) #[] #[]), (1, Value.pointer (some ⟨Bs, 0, none⟩))]) ((Bs, Obj.cells [Value.int .u64 ((v : Nat) : Int)].toArray 107 (0, 0)) :: X r bs.length) (ro) ?_
  dsimp only at hbs hr hv
  have hln : bs.length ≤ 9 := by have h1 := congrArg List.length hbs; rw [List.length_append] at h1; have h2 := numG_ten hn; have h3 := numG_pos v; omega
  refine w_block ?_
  refine w_seq ?_
  refine rg_text ?_
  refine x_val rfl rfl rfl (v_load Tryz.underlying107 rfl rfl (at_ownL (vs := [Value.int .u64 ((v : Nat) : Int)]) (.head _) rfl)) ?_
  refine x_val (v := Value.int .u64 ((v % 128 : Nat) : Int)) rfl rfl rfl (v_remN (b := 128) rfl rfl (by decide)) ?_
  refine x_val rfl rfl rfl (v_convU8 Tryz.underlying107 Tryz.underlying5 rfl (by omega)) ?_
  refine x_val rfl rfl rfl (v_assign rfl) ?_
  refine x_end ?_
  refine t_norm ?_
  refine w_seq ?_
  refine rg_text ?_
  refine x_val rfl rfl rfl (v_load Tryz.underlying107 rfl rfl (at_ownL (vs := [Value.int .u64 ((v : Nat) : Int)]) (.head _) rfl)) ?_
  refine x_val (v := Value.int .u64 ((v / 128 : Nat) : Int)) rfl rfl rfl (v_shr rfl rfl (by decide) (by show (v : Int) / 128 = _; omega)) ?_
  refine x_store (cs := [Value.int .u64 ((v : Nat) : Int)]) (off := 0) (e := 107) (l2 := X r bs.length) [] rfl rfl rfl rfl sz107 rfl (by show 1 ≤ 1; decide) ?_
  refine x_end ?_
  refine t_norm ?_
  refine w_seq ?_
  refine rg_yield 4 2 (by kernel_rfl) rfl ?_
  refine x_val rfl rfl rfl (v_move rfl) ?_
  refine x_val rfl rfl rfl (v_move rfl) ?_
  refine x_val rfl rfl rfl (v_load Tryz.underlying107 rfl rfl (at_ownL (vs := [Value.int .u64 ((v / 128 : Nat) : Int)]) (.head _) rfl)) ?_
  refine x_bool rfl rfl rfl (v_gtr rfl rfl) ?_
  intro b12 hb12
  refine x_end ?_
  subst hb12
  refine s_yield (fun r' : RowS => rowOK 1 r' (bs ++ [(if v / 128 > 0 then UInt8.ofNat (v % 128 + 128) else UInt8.ofNat (v % 128))]).length (byC (bs ++ [(if v / 128 > 0 then UInt8.ofNat (v % 128 + 128) else UInt8.ofNat (v % 128))]))) (fun r' => (Bs, Obj.cells [Value.int .u64 ((v / 128 : Nat) : Int)].toArray 107 (0, 0)) :: X r' (bs ++ [(if v / 128 > 0 then UInt8.ofNat (v % 128 + 128) else UInt8.ofNat (v % 128))]).length) rfl rfl rfl rfl rfl (fun w1 hw1 => (hY bs v r w1 hr hln hv hw1).mono fun e w2 h => h) ?_
  intro r' hr'
  refine s_rest (by kernel_rfl) rfl ?_
  refine x_val (v := Value.bool false) rfl rfl rfl (v_not (b := true) rfl) ?_
  refine x_val rfl rfl rfl (v_move rfl) ?_
  refine x_valg rfl rfl rfl rfl rfl (v_load Tryz.underlying107 rfl rfl (at_ownL (vs := [Value.int .u64 ((v / 128 : Nat) : Int)]) (.head _) rfl)) ?_
  refine x_boolg rfl rfl rfl rfl rfl (v_eql rfl rfl) ?_
  intro b17 hb17
  refine x_bool rfl rfl rfl (v_or (g := false) rfl rfl) ?_
  intro b18 hb18
  refine x_end ?_
  refine t_norm ?_
  refine w_cond rfl (fun hc18 => ?_) (fun hc18 => ?_)
  · have hv0 : v / 128 = 0 := by rw [hb18, hb17] at hc18; simp at hc18; omega
    refine w_ret ?_
    refine b_ret ?_
    refine t_ret ?_
    refine b_ret ?_
    have hv1 : v < 128 := by omega
    rw [numG_small hv1] at hbs
    have e9 : (if v / 128 > 0 then UInt8.ofNat (v % 128 + 128) else UInt8.ofNat (v % 128)) = UInt8.ofNat v := by rw [if_neg (by omega), Nat.mod_eq_of_lt hv1]
    rw [e9, hbs] at hr'
    refine retn rfl (fun w' hm => ⟨⟨_, rfl⟩, r', v / 128, hr', ?_⟩)
    rw [e9, hbs] at hm
    exact hm
  · have hv0 : ¬v / 128 = 0 := by rw [hb18, hb17] at hc18; simp at hc18; omega
    refine w_skip ?_
    refine b_norm ?_
    have hv1 : ¬v < 128 := by omega
    rw [numG_big hv1] at hbs
    have e9 : (if v / 128 > 0 then UInt8.ofNat (v % 128 + 128) else UInt8.ofNat (v % 128)) = UInt8.ofNat (v % 128 + 128) := if_pos (by omega)
    exact l_norm (x := (bs, v, r)) (μ := fun q : List UInt8 × Nat × RowS => q.2.1) (bs ++ [UInt8.ofNat (v % 128 + 128)], v / 128, r') ⟨by dsimp only; rw [← hbs, List.append_assoc]; rfl, by rw [← e9]; exact hr', by dsimp only; omega⟩ (by simp only; omega) (by repeat (first | exact Sub.nil | refine Sub.cons rfl ?_)) (fun _ h => by rw [e9] at h; exact h)

end Go.Proofs.YtaniaihoodgmpaaGreatDoor

namespace Go.Proofs.YtaniaihoodgmpaaGreatDoor
open Go.RowKit Go.PK
set_option linter.unusedVariables false
set_option linter.unusedSimpArgs false
set_option maxRecDepth 100000 in
set_option maxHeartbeats 1000000 in
theorem c_Num (n : Nat) (w : World) (hn : n < 18446744073709551616) :
    Calls Tryz.prog 82 #[.int .u64 (n : Nat)] w fun e w' => e = .returned (.string ⟨(numG n).toArray⟩) ∧ Later w w' := by
  have hT := numG_ten hn
  refine enterM (vs := [.int .u64 (n : Nat)]) 2 Tryz.func82 rfl Tryz.ntmps82 rfl ?_
  refine w_seq ?_
  refine rg_text ?_
  refine x_val rfl rfl rfl (v_assign rfl) ?_
  refine x_end ?_
  refine t_norm ?_
  refine w_seq ?_
  refine rg_text ?_
  refine x_alloc rfl rfl rfl zr45 ?_
  intro p3
  refine x_end ?_
  refine t_norm ?_
  refine w_seq ?_
  refine w_seq ?_
  refine rg_text ?_
  refine x_val rfl rfl rfl (v_move rfl) ?_
  refine x_own (τ := Nat) (fun Bs => .func (.func 134) #[] #[.pointer (some ⟨Bs, 0, none⟩)]) (fun _ => True) (fun Bs => (Bs, Obj.cells [Value.int .u64 ((n : Nat) : Int)].toArray 107 (0, 0)) :: [(p3, Obj.cells [rowV none 0].toArray 45 (0, 0))]) rfl rfl rfl Tryz.func111 (by kernel_rfl) rfl (fun w1 hw1 => (c_groups n w1).mono fun e w2 ⟨Bs, h1, h2, h3⟩ => ⟨Bs, h1, h2, trivial, (hw1.join2 h3).to (by simp; rfl)⟩) ?_
  intro Bs _
  refine x_end ?_
  refine t_norm ?_
  refine w_block ?_
  refine w_range (fun x : RowS × Nat => rowOK 1 x.1 (numG n).length (byC (numG n))) (fun x => (Bs, Obj.cells [Value.int .u64 ((x.2 : Nat) : Int)].toArray 107 (0, 0)) :: (p3, Obj.cells [rowV x.1 (numG n).length].toArray 45 (0, 0)) :: rowO 5 x.1) rfl (enters_of Tryz.func134 (by kernel_rfl) rfl) ?_ ?_
  · intro L D fn tmps w1 hfh hm1
    refine (c_groups1 (Bs := Bs) (L := L) (fun r k => (L, .loop (recL .ready fn tmps #[8, 9] _ _ D)) :: (D, .deferred (some [])) :: (p3, Obj.cells [rowV r k].toArray 45 (0, 0)) :: rowO 5 r) n hn (hm1.perm (((List.Perm.swap _ _ _).cons _).trans (List.Perm.swap _ _ _))) ?_).mono ?_
    · intro bs v r w2 hr hln hv hm2
      refine yield_two (m := 1) (hm2.perm (List.Perm.swap _ _ _)) hfh rfl rfl ?_
      refine wi_seq ?_
      refine ri_text (lets_round _) (by kernel_rfl) ?_
      refine x_val rfl rfl rfl (v_assign rfl) ?_
      refine x_end ?_
      refine ti_norm ?_
      refine ri_text (lets_round _) (by kernel_rfl) ?_
      refine x_val rfl rfl rfl (v_assign rfl) ?_
      refine x_end ?_
      refine t_k ?_
      refine s_begin rfl ?_
      refine wi_block ?_
      refine wi_seq ?_
      refine wi_seq ?_
      refine ri_text (lets_round _) (by kernel_rfl) ?_
      refine x_val rfl rfl rfl (v_move rfl) ?_
      refine x_end ?_
      refine ti_norm ?_
      refine wi_cond rfl (fun hc => ?_) (fun hc => ?_)
      · have hv0 := of_decide_eq_true hc
        refine ri_text (lets_round _) (by kernel_rfl) ?_
        refine x_val rfl rfl rfl (v_move rfl) ?_
        refine x_val (v := Value.int .u8 (((UInt8.ofNat (v % 128 + 128)).toNat : Nat) : Int)) rfl rfl rfl (by rw [← or128 (Nat.mod_lt v (by decide))]; exact v_orK rfl rfl) ?_
        refine x_val rfl rfl rfl (v_assign rfl) ?_
        refine x_end ?_
        refine ti_norm ?_
        refine ri_text (lets_round _) (by kernel_rfl) ?_
        refine x_val rfl rfl rfl (v_load Tryz.underlying45 rfl rfl (at_ownL (vs := [rowV r bs.length]) (by repeat (first | exact List.Mem.head _ | apply List.Mem.tail)) rfl)) ?_
        refine x_val rfl rfl rfl (v_move rfl) ?_
        refine x_buildSliceL (cs := byC [UInt8.ofNat (v % 128 + 128)]) rfl rfl rfl Tryz.underlying45 sz5 zr5 rfl rfl rfl ?_
        intro p15
        refine x_append (e := 5) [(p15, _), (L, _), (Bs, _), (D, _), (p3, _)] (l2 := []) r (len := bs.length) (xs := byC bs) rfl rfl rfl rfl (by simp only [List.append_nil]; rfl) hr Tryz.underlying45 ap5 rfl rfl (m := 1) (news := byC [UInt8.ofNat (v % 128 + 128)]) (fun i hi => at_ownL (vs := byC [UInt8.ofNat (v % 128 + 128)]) (.head _) (by rw [Nat.zero_add]; exact List.getElem?_eq_getElem hi)) rfl (by simp only [maxLen]; omega) (by omega) ?_
        intro r' hr'
        rw [List.append_nil]
        refine x_store (cs := [rowV r bs.length]) (off := 0) (e := 45) (l2 := rowO 5 r') [(p15, _), (L, _), (Bs, _), (D, _)] rfl rfl rfl rfl sz45 rfl (by show 1 ≤ 1; decide) ?_
        refine x_mem (fun _ h => h.less (List.sublist_cons_self _ _) (fun _ h => h)) ?_
        refine x_end ?_
        refine b_norm ?_
        refine s_round (fun w' hm => ⟨rfl, r', ?_, ?_⟩)
        · rw [(if_pos (show v / 128 > 0 by omega) : (if v / 128 > 0 then UInt8.ofNat (v % 128 + 128) else UInt8.ofNat (v % 128)) = _), byC_app, List.length_append]; exact hr'
        · rw [(if_pos (show v / 128 > 0 by omega) : (if v / 128 > 0 then UInt8.ofNat (v % 128 + 128) else UInt8.ofNat (v % 128)) = _), List.length_append]; exact hm.perm (List.Perm.swap _ _ _)
      · have hv0 := of_decide_eq_false hc
        refine wi_skip ?_
        refine ti_norm ?_
        refine ri_text (lets_round _) (by kernel_rfl) ?_
        refine x_val rfl rfl rfl (v_load Tryz.underlying45 rfl rfl (at_ownL (vs := [rowV r bs.length]) (by repeat (first | exact List.Mem.head _ | apply List.Mem.tail)) rfl)) ?_
        refine x_val rfl rfl rfl (v_move rfl) ?_
        refine x_buildSliceL (cs := byC [UInt8.ofNat (v % 128)]) rfl rfl rfl Tryz.underlying45 sz5 zr5 rfl rfl rfl ?_
        intro p15
        refine x_append (e := 5) [(p15, _), (L, _), (Bs, _), (D, _), (p3, _)] (l2 := []) r (len := bs.length) (xs := byC bs) rfl rfl rfl rfl (by simp only [List.append_nil]; rfl) hr Tryz.underlying45 ap5 rfl rfl (m := 1) (news := byC [UInt8.ofNat (v % 128)]) (fun i hi => at_ownL (vs := byC [UInt8.ofNat (v % 128)]) (.head _) (by rw [Nat.zero_add]; exact List.getElem?_eq_getElem hi)) rfl (by simp only [maxLen]; omega) (by omega) ?_
        intro r' hr'
        rw [List.append_nil]
        refine x_store (cs := [rowV r bs.length]) (off := 0) (e := 45) (l2 := rowO 5 r') [(p15, _), (L, _), (Bs, _), (D, _)] rfl rfl rfl rfl sz45 rfl (by show 1 ≤ 1; decide) ?_
        refine x_mem (fun _ h => h.less (List.sublist_cons_self _ _) (fun _ h => h)) ?_
        refine x_end ?_
        refine b_norm ?_
        refine s_round (fun w' hm => ⟨rfl, r', ?_, ?_⟩)
        · rw [(if_neg (show ¬v / 128 > 0 by omega) : (if v / 128 > 0 then UInt8.ofNat (v % 128 + 128) else UInt8.ofNat (v % 128)) = _), byC_app, List.length_append]; exact hr'
        · rw [(if_neg (show ¬v / 128 > 0 by omega) : (if v / 128 > 0 then UInt8.ofNat (v % 128 + 128) else UInt8.ofNat (v % 128)) = _), List.length_append]; exact hm.perm (List.Perm.swap _ _ _)
    · rintro e w2 ⟨h1, r', v', h2, h3⟩
      exact ⟨h1, (r', v'), h2, h3.perm ((List.Perm.swap _ _ _).trans ((List.Perm.swap _ _ _).cons _))⟩
  · rintro D ⟨r, v'⟩ hr
    dsimp only at hr ⊢
    refine sd_block ?_
    refine sd_then ?_
    refine sd_seq ?_
    refine sd_region ?_
    refine sdl_val rfl (v_load Tryz.underlying45 rfl rfl (at_ownL (vs := [rowV r (numG n).length]) (by repeat (first | exact List.Mem.head _ | apply List.Mem.tail)) rfl)) ?_
    refine sdl_val rfl (v_toStrR (E := 5) (numG n) Tryz.underlying45 Tryz.underlying5 Tryz.underlying9 rfl hr rfl (fun q hq => .tail _ (.tail _ (.tail _ hq)))) ?_
    refine sdl_val rfl (v_assign rfl) ?_
    refine sdl_end ?_
    refine sd_then ?_
    refine sd_ret ?_
    exact ret1M rfl rfl (fun w' hm => ⟨rfl, hm.base (by simp)⟩)

end Go.Proofs.YtaniaihoodgmpaaGreatDoor

namespace Go.Proofs.YtaniaihoodgmpaaGreatDoor
open Go.RowKit Go.PK
set_option linter.unusedVariables false
set_option linter.unusedSimpArgs false
set_option maxRecDepth 100000 in
theorem c_Sgn (n : Int) (w : World) (h : in64 n) :
    Calls Tryz.prog 84 #[.int .i64 n] w fun e w' => e = .returned (.int .u64 (sgn n : Nat)) ∧ Later w w' := by
  refine enter (vs := [.int .i64 n]) Tryz.func84 rfl Tryz.ntmps84 rfl ?_
  refine w_seq ?_
  refine rg_text ?_
  refine x_val rfl rfl rfl (v_assign rfl) ?_
  refine x_end ?_
  refine t_norm ?_
  refine w_seq ?_
  refine rg_text ?_
  refine x_val rfl rfl rfl (v_move rfl) ?_
  refine x_val rfl rfl rfl (v_conv Tryz.underlying3 Tryz.underlying107 rfl) ?_
  refine x_val (v := Value.int .u64 (IntKind.u64.wrap (IntKind.u64.wrap n * 2))) rfl rfl rfl (v_shl rfl rfl (by decide) rfl) ?_
  refine x_val rfl rfl rfl (v_move rfl) ?_
  refine x_val (v := Value.int .i64 (n / 9223372036854775808)) rfl rfl rfl (v_shr rfl rfl (by decide) rfl) ?_
  refine x_val rfl rfl rfl (v_conv Tryz.underlying3 Tryz.underlying107 rfl) ?_
  refine x_val (v := Value.int .u64 (sgn n : Nat)) rfl rfl rfl (by rw [← xor_sgn h]; exact v_xorK rfl rfl) ?_
  refine x_val rfl rfl rfl (v_assign rfl) ?_
  refine x_end ?_
  refine t_norm ?_
  refine w_ret ?_
  refine ret1 rfl rfl (fun w' hm => ⟨?_, hm.base (by simp)⟩)
  rfl
set_option maxRecDepth 100000 in
theorem c_rSgn (n : Int) (w : World) (h : in64 n) :
    Calls Tryz.prog 62 #[.int .i64 n] w fun e w' => e = .returned (.int .u64 (sgn n : Nat)) ∧ Later w w' := by
  refine enter (vs := [.int .i64 n]) Tryz.func62 rfl Tryz.ntmps62 rfl ?_
  refine w_seq ?_
  refine rg_text ?_
  refine x_val rfl rfl rfl (v_assign rfl) ?_
  refine x_end ?_
  refine t_norm ?_
  refine w_seq ?_
  refine w_seq ?_
  refine rg_text ?_
  refine x_val rfl rfl rfl (v_move rfl) ?_
  refine x_bool rfl rfl rfl (v_geq rfl rfl) ?_
  intro b4 hb4
  refine x_end ?_
  refine t_norm ?_
  refine w_cond rfl (fun hc4 => ?_) (fun hc4 => ?_)
  · simp only [hb4, decide_eq_true_eq, decide_eq_false_iff_not, Bool.and_eq_true, Bool.or_eq_true, Bool.and_eq_false_iff, Bool.or_eq_false_iff, Bool.not_eq_true', Bool.not_eq_false', ne_eq, Decidable.not_not] at hc4
    refine w_seq ?_
    refine rg_text ?_
    refine x_val rfl rfl rfl (v_move rfl) ?_
    refine x_val rfl rfl rfl (v_convE (c := n) Tryz.underlying3 Tryz.underlying107 rfl (u64_wrap (by unfold in64 at h; omega))) ?_
    refine x_val (v := Value.int .u64 (sgn n : Nat)) rfl rfl rfl (v_mulE rfl rfl (by rw [u64_wrap (by unfold in64 at h; omega)]; unfold sgn; rw [if_pos (by omega)]; omega)) ?_
    refine x_val rfl rfl rfl (v_assign rfl) ?_
    refine x_end ?_
    refine t_norm ?_
    refine w_ret ?_
    refine t_ret ?_
    refine ret1 rfl rfl (fun w' hm => ⟨?_, hm.base (by simp)⟩)
    rfl
  · simp only [hb4, decide_eq_true_eq, decide_eq_false_iff_not, Bool.and_eq_true, Bool.or_eq_true, Bool.and_eq_false_iff, Bool.or_eq_false_iff, Bool.not_eq_true', Bool.not_eq_false', ne_eq, Decidable.not_not] at hc4
    refine w_skip ?_
    refine t_norm ?_
    refine w_seq ?_
    refine rg_text ?_
    refine x_val rfl rfl rfl (v_move rfl) ?_
    refine x_val rfl rfl rfl (v_subi (c := -1 - n) rfl rfl rfl (by unfold in64 at h; omega)) ?_
    refine x_val rfl rfl rfl (v_convE (c := -1 - n) Tryz.underlying3 Tryz.underlying107 rfl (u64_wrap (by unfold in64 at h; omega))) ?_
    refine x_val rfl rfl rfl (v_mulE (c := 2 * (-1 - n)) rfl rfl (u64_wrap (by unfold in64 at h; omega))) ?_
    refine x_val (v := Value.int .u64 (sgn n : Nat)) rfl rfl rfl (v_addE rfl rfl (by rw [u64_wrap (by unfold in64 at h; omega)]; unfold sgn; rw [if_neg (by omega)]; omega)) ?_
    refine x_val rfl rfl rfl (v_assign rfl) ?_
    refine x_end ?_
    refine t_norm ?_
    refine w_ret ?_
    refine ret1 rfl rfl (fun w' hm => ⟨?_, hm.base (by simp)⟩)
    rfl
set_option maxRecDepth 100000 in
theorem c_rN1 (n : Nat) (w : World) (hn : n < 18446744073709551616) (ih : ¬n < 128 → ∀ w1, Calls Tryz.prog 59 #[.int .u64 ((n / 128 : Nat) : Int)] w1 fun e w2 => e = .returned (.string ⟨(numG (n / 128)).toArray⟩) ∧ Later w1 w2) :
    Calls Tryz.prog 59 #[.int .u64 (n : Nat)] w fun e w' => e = .returned (.string ⟨(numG n).toArray⟩) ∧ Later w w' := by
  refine enter (vs := [.int .u64 (n : Nat)]) Tryz.func59 rfl Tryz.ntmps59 rfl ?_
  refine w_seq ?_
  refine rg_text ?_
  refine x_val rfl rfl rfl (v_assign rfl) ?_
  refine x_end ?_
  refine t_norm ?_
  refine w_seq ?_
  refine w_seq ?_
  refine rg_text ?_
  refine x_val rfl rfl rfl (v_move rfl) ?_
  refine x_bool rfl rfl rfl (v_lss rfl rfl) ?_
  intro b4 hb4
  refine x_end ?_
  refine t_norm ?_
  refine w_cond rfl (fun hc4 => ?_) (fun hc4 => ?_)
  · simp only [hb4, decide_eq_true_eq, decide_eq_false_iff_not, Bool.and_eq_true, Bool.or_eq_true, Bool.and_eq_false_iff, Bool.or_eq_false_iff, Bool.not_eq_true', Bool.not_eq_false', ne_eq, Decidable.not_not] at hc4
    have hn1 : n < 128 := by omega
    refine w_seq ?_
    refine rg_text ?_
    refine x_val rfl rfl rfl (v_move rfl) ?_
    refine x_val rfl rfl rfl (v_convU8 Tryz.underlying107 Tryz.underlying5 rfl (by omega)) ?_
    refine x_buildSliceL rfl rfl rfl Tryz.underlying45 sz5 zr5 rfl rfl rfl ?_
    intro p7
    refine x_val rfl rfl rfl (v_toStr [UInt8.ofNat n] Tryz.underlying45 Tryz.underlying5 Tryz.underlying9 rfl rfl (fun j hj => at_ownL (vs := [Value.int .u8 ((UInt8.ofNat n).toNat : Nat)]) (.head _) (by match j, hj with | 0, _ => rfl))) ?_
    refine x_val rfl rfl rfl (v_assign rfl) ?_
    refine x_end ?_
    refine t_norm ?_
    refine w_ret ?_
    refine t_ret ?_
    refine ret1 rfl rfl (fun w' hm => ⟨?_, hm.base (by simp)⟩)
    rw [numG_small hn1]
  · simp only [hb4, decide_eq_true_eq, decide_eq_false_iff_not, Bool.and_eq_true, Bool.or_eq_true, Bool.and_eq_false_iff, Bool.or_eq_false_iff, Bool.not_eq_true', Bool.not_eq_false', ne_eq, Decidable.not_not] at hc4
    have hn1 : ¬n < 128 := by omega
    refine w_skip ?_
    refine t_norm ?_
    refine w_seq ?_
    refine rg_draw 11 [(true, 0), (true, 1), (true, 2), (true, 3), (true, 6), (true, 7), (true, 8), (false, 4), (true, 5), (true, 9), (true, 10)] (by kernel_rfl) (by kernel_rfl) ?_
    refine x_val rfl rfl rfl (v_move rfl) ?_
    refine x_val (v := Value.int .u64 ((n % 128 : Nat) : Int)) rfl rfl rfl (v_remN (b := 128) rfl rfl (by decide)) ?_
    refine x_val (v := Value.int .u64 ((n % 128 + 128 : Nat) : Int)) rfl rfl rfl (v_addE rfl rfl (by rw [u64_wrap (by omega)]; omega)) ?_
    refine x_val rfl rfl rfl (v_convU8 Tryz.underlying107 Tryz.underlying5 rfl (by omega)) ?_
    refine x_val rfl rfl rfl (v_move rfl) ?_
    refine x_val (v := Value.int .u64 ((n / 128 : Nat) : Int)) rfl rfl rfl (v_quoE rfl rfl (by decide) (by rw [show ((n : Nat) : Int).tdiv 128 = ((n / 128 : Nat) : Int) from rfl, u64_wrap (by omega)])) ?_
    refine x_callv rfl rfl rfl Tryz.func59 (by kernel_rfl) rfl (fun w1 hw1 => ih hn1 w1) ?_
    refine x_buildSliceL rfl rfl rfl Tryz.underlying45 sz5 zr5 rfl rfl rfl ?_
    intro p13
    refine x_val rfl rfl rfl (v_toStr [UInt8.ofNat (n % 128 + 128)] Tryz.underlying45 Tryz.underlying5 Tryz.underlying9 rfl rfl (fun j hj => at_ownL (vs := [Value.int .u8 ((UInt8.ofNat (n % 128 + 128)).toNat : Nat)]) (.head _) (by match j, hj with | 0, _ => rfl))) ?_
    refine x_val rfl rfl rfl (v_saddL rfl rfl (by have := numG_ten (n := n / 128) (by omega); simp only [List.length_cons, List.length_nil]; omega)) ?_
    refine x_val rfl rfl rfl (v_assign rfl) ?_
    refine x_end ?_
    refine t_norm ?_
    refine w_ret ?_
    refine ret1 rfl rfl (fun w' hm => ⟨?_, hm.base (by simp)⟩)
    rw [numG_big hn1]; rfl
theorem c_rN : ∀ (m n : Nat) (w : World), n < 18446744073709551616 → n ≤ m → Calls Tryz.prog 59 #[.int .u64 (n : Nat)] w fun e w' => e = .returned (.string ⟨(numG n).toArray⟩) ∧ Later w w'
  | 0, n, w, hn, h => c_rN1 n w hn (fun h1 => by omega)
  | m + 1, n, w, hn, h => c_rN1 n w hn (fun h1 w1 => c_rN m (n / 128) w1 (by omega) (by omega))
theorem c_rNum (n : Nat) (w : World) (hn : n < 18446744073709551616) : Calls Tryz.prog 59 #[.int .u64 (n : Nat)] w fun e w' => e = .returned (.string ⟨(numG n).toArray⟩) ∧ Later w w' := c_rN n n w hn (Nat.le_refl _)
set_option maxRecDepth 100000 in
theorem c_rInts {D : Nat → Prop} {v : Value} {l : List Int} (w : World) (h : sliceRd tyI D w v l) (hll : l.length ≤ 1000000) :
    Calls Tryz.prog 26 #[v] w fun e w' => e = .returned (.string ⟨(intsG l).toArray⟩) ∧ Later w w' := by
  obtain ⟨A0, c0, rfl, hlc, hmx, -⟩ := id h
  have hin : ∀ n ∈ l, -9223372036854775808 ≤ n ∧ n ≤ 9223372036854775807 := rd_in h
  refine enter (vs := [Value.slice A0 l.length c0]) Tryz.func26 rfl Tryz.ntmps26 rfl ?_
  refine w_seq ?_
  refine rg_text ?_
  refine x_val rfl rfl rfl (v_assign rfl) ?_
  refine x_end ?_
  refine t_norm ?_
  refine w_seq ?_
  refine rg_text ?_
  refine x_val rfl rfl rfl (v_move rfl) ?_
  refine x_val rfl rfl rfl (v_len_slice Tryz.underlying22 rfl) ?_
  refine x_val rfl rfl rfl (v_convE (c := ((l.length : Nat) : Int)) Tryz.underlying3 Tryz.underlying107 rfl (u64_wrap (by omega))) ?_
  refine x_callv (v := Value.string ⟨(numG (l.length)).toArray⟩) rfl rfl rfl Tryz.func59 (by kernel_rfl) rfl (fun w1 hw1 => c_rNum _ w1 (by omega)) ?_
  refine x_val (v := Value.string ⟨(intsT l 0).toArray⟩) rfl rfl rfl (by rw [intsT_zero]; exact v_assign rfl) ?_
  refine x_end ?_
  refine t_norm ?_
  refine w_seq ?_
  refine w_seq ?_
  refine rg_text ?_
  refine x_val rfl rfl rfl (v_assign rfl) ?_
  refine x_end ?_
  refine t_norm ?_
  refine w_block ?_
  refine w_loop (σ := Nat) (fun k => k ≤ l.length) (fun k => [(0, Value.slice A0 l.length c0), (3, Value.string ⟨(intsT l k).toArray⟩), (4, Value.int .i64 (k : Nat))]) (fun k => []) (fun k => [(w, fun _ => True)]) (fun k => l.length - k) (0) (Nat.zero_le _) (l_start (by repeat (first | exact Sub.nil | refine Sub.cons rfl ?_)) (fun _ h => h)) ?_
  rintro k hk
  refine w_state ([(0, Value.slice A0 l.length c0), (3, Value.string ⟨(intsT l k).toArray⟩), (4, Value.int .i64 (k : Nat))]) ([]) ([(w, fun _ => True)]) ?_
  refine w_seq ?_
  refine w_seq ?_
  refine rg_text ?_
  refine x_val rfl rfl rfl (v_move rfl) ?_
  refine x_val rfl rfl rfl (v_move rfl) ?_
  refine x_val rfl rfl rfl (v_len_slice Tryz.underlying22 rfl) ?_
  refine x_bool rfl rfl rfl (v_lss rfl rfl) ?_
  intro b12 hb12
  refine x_end ?_
  refine t_norm ?_
  refine w_cond rfl (fun hc12 => ?_) (fun hc12 => ?_)
  · simp only [hb12, decide_eq_true_eq, decide_eq_false_iff_not, Bool.and_eq_true, Bool.or_eq_true, Bool.and_eq_false_iff, Bool.or_eq_false_iff, Bool.not_eq_true', Bool.not_eq_false', ne_eq, Decidable.not_not] at hc12
    have hkl : k < l.length := by omega
    obtain ⟨b0, o0, hA0, _, hc0, hk9⟩ := int_at h hkl
    have hz := intsT_len (by omega) hin k (by omega)
    have hz2 := numG_ten (sgn_lt hk9)
    refine w_skip ?_
    refine t_norm ?_
    refine w_seq ?_
    refine w_block ?_
    refine rg_text ?_
    refine x_val rfl rfl rfl (v_move rfl) ?_
    refine x_val rfl rfl rfl (v_move rfl) ?_
    refine x_val rfl rfl rfl (v_move rfl) ?_
    refine x_val rfl rfl rfl (v_indexAddr Tryz.underlying22 sz3 (congrArg (fun A => some (Value.slice A l.length c0)) hA0) rfl (by first | omega | (dsimp only; omega)) rfl) ?_
    refine x_val rfl rfl rfl (v_load Tryz.underlying3 rfl rfl (at_ro (.head _) trivial (by rw [Nat.mul_one]; exact hc0))) ?_
    refine x_callv (v := Value.int .u64 ((sgn l[k] : Nat) : Int)) rfl rfl rfl Tryz.func62 (by kernel_rfl) rfl (fun w1 hw1 => c_rSgn _ w1 hk9) ?_
    refine x_callv (v := Value.string ⟨(numG (sgn l[k])).toArray⟩) rfl rfl rfl Tryz.func59 (by kernel_rfl) rfl (fun w1 hw1 => c_rNum _ w1 (sgn_lt hk9)) ?_
    refine x_val rfl rfl rfl (v_saddL rfl rfl (by omega)) ?_
    refine x_val (v := Value.string ⟨(intsT l (k + 1)).toArray⟩) rfl rfl rfl (by rw [intsT_succ hkl]; exact v_assign rfl) ?_
    refine x_end ?_
    refine b_norm ?_
    refine t_norm ?_
    refine rg_text ?_
    refine x_val rfl rfl rfl (v_move rfl) ?_
    refine x_val rfl rfl rfl (v_addi rfl rfl rfl (by first | omega | (dsimp only; omega))) ?_
    refine x_val rfl rfl rfl (v_assign rfl) ?_
    refine x_end ?_
    exact l_norm (k + 1) (show k + 1 ≤ l.length by omega) (by omega) (by repeat (first | exact Sub.nil | refine Sub.cons rfl ?_)) (fun _ h => h)
  · simp only [hb12, decide_eq_true_eq, decide_eq_false_iff_not, Bool.and_eq_true, Bool.or_eq_true, Bool.and_eq_false_iff, Bool.or_eq_false_iff, Bool.not_eq_true', Bool.not_eq_false', ne_eq, Decidable.not_not] at hc12
    obtain rfl : k = l.length := by omega
    refine w_exit ?_
    refine t_exit ?_
    refine t_exit ?_
    refine b_hit ?_
    refine t_norm ?_
    refine w_seq ?_
    refine rg_text ?_
    refine x_val rfl rfl rfl (v_move rfl) ?_
    refine x_val rfl rfl rfl (v_assign rfl) ?_
    refine x_end ?_
    refine t_norm ?_
    refine w_ret ?_
    refine ret1 rfl rfl (fun w' hm => ⟨?_, hm.base (by simp)⟩)
    rw [intsT_all]
set_option maxRecDepth 100000 in
theorem c_rPack {D : Nat → Prop} {v : Value} {l : List ByteArray} (w : World) (h : sliceRd tyStr D w v l) (hll : l.length ≤ 1000000) (hsz : ∀ s ∈ l, s.size ≤ 2000000) :
    Calls Tryz.prog 24 #[v] w fun e w' => e = .returned (.string ⟨(packG l).toArray⟩) ∧ Later w w' := by
  obtain ⟨A0, c0, rfl, hlc, hmx, -⟩ := id h
  refine enter (vs := [Value.slice A0 l.length c0]) Tryz.func24 rfl Tryz.ntmps24 rfl ?_
  refine w_seq ?_
  refine rg_text ?_
  refine x_val rfl rfl rfl (v_assign rfl) ?_
  refine x_end ?_
  refine t_norm ?_
  refine w_seq ?_
  refine rg_text ?_
  refine x_val rfl rfl rfl (v_move rfl) ?_
  refine x_val rfl rfl rfl (v_len_slice Tryz.underlying55 rfl) ?_
  refine x_val rfl rfl rfl (v_convE (c := ((l.length : Nat) : Int)) Tryz.underlying3 Tryz.underlying107 rfl (u64_wrap (by omega))) ?_
  refine x_callv (v := Value.string ⟨(numG (l.length)).toArray⟩) rfl rfl rfl Tryz.func59 (by kernel_rfl) rfl (fun w1 hw1 => c_rNum _ w1 (by omega)) ?_
  refine x_val (v := Value.string ⟨(packT l 0).toArray⟩) rfl rfl rfl (by rw [packT_zero]; exact v_assign rfl) ?_
  refine x_end ?_
  refine t_norm ?_
  refine w_seq ?_
  refine w_seq ?_
  refine rg_text ?_
  refine x_val rfl rfl rfl (v_assign rfl) ?_
  refine x_end ?_
  refine t_norm ?_
  refine w_block ?_
  refine w_loop (σ := Nat) (fun k => k ≤ l.length) (fun k => [(0, Value.slice A0 l.length c0), (3, Value.string ⟨(packT l k).toArray⟩), (4, Value.int .i64 (k : Nat))]) (fun k => []) (fun k => [(w, fun _ => True)]) (fun k => l.length - k) (0) (Nat.zero_le _) (l_start (by repeat (first | exact Sub.nil | refine Sub.cons rfl ?_)) (fun _ h => h)) ?_
  rintro k hk
  refine w_state ([(0, Value.slice A0 l.length c0), (3, Value.string ⟨(packT l k).toArray⟩), (4, Value.int .i64 (k : Nat))]) ([]) ([(w, fun _ => True)]) ?_
  refine w_seq ?_
  refine w_seq ?_
  refine rg_text ?_
  refine x_val rfl rfl rfl (v_move rfl) ?_
  refine x_val rfl rfl rfl (v_move rfl) ?_
  refine x_val rfl rfl rfl (v_len_slice Tryz.underlying55 rfl) ?_
  refine x_bool rfl rfl rfl (v_lss rfl rfl) ?_
  intro b12 hb12
  refine x_end ?_
  refine t_norm ?_
  refine w_cond rfl (fun hc12 => ?_) (fun hc12 => ?_)
  · simp only [hb12, decide_eq_true_eq, decide_eq_false_iff_not, Bool.and_eq_true, Bool.or_eq_true, Bool.and_eq_false_iff, Bool.or_eq_false_iff, Bool.not_eq_true', Bool.not_eq_false', ne_eq, Decidable.not_not] at hc12
    have hkl : k < l.length := by omega
    obtain ⟨b0, o0, hA0, _, hc0, hk9⟩ := s_at h hkl
    have hz := packT_len (by omega) hsz (by decide) k (by omega)
    have hs9 := hsz _ (List.getElem_mem hkl)
    have hz2 := numG_ten (show l[k].size < 18446744073709551616 by omega)
    refine w_skip ?_
    refine t_norm ?_
    refine w_seq ?_
    refine w_block ?_
    refine rg_draw 15 [(true, 0), (true, 1), (true, 2), (true, 3), (true, 4), (true, 5), (true, 6), (true, 7), (true, 8), (true, 9), (true, 10), (true, 11), (true, 12), (true, 13), (true, 14)] (by kernel_rfl) (by kernel_rfl) ?_
    refine x_val rfl rfl rfl (v_move rfl) ?_
    refine x_val rfl rfl rfl (v_move rfl) ?_
    refine x_val rfl rfl rfl (v_move rfl) ?_
    refine x_val rfl rfl rfl (v_indexAddr Tryz.underlying55 sz9 (congrArg (fun A => some (Value.slice A l.length c0)) hA0) rfl (by first | omega | (dsimp only; omega)) rfl) ?_
    refine x_val rfl rfl rfl (v_load Tryz.underlying9 rfl rfl (at_ro (.head _) trivial (by rw [Nat.mul_one]; exact hc0))) ?_
    refine x_val rfl rfl rfl (v_len_str Tryz.underlying9 rfl) ?_
    refine x_val rfl rfl rfl (v_convE (c := ((l[k].size : Nat) : Int)) Tryz.underlying3 Tryz.underlying107 rfl (u64_wrap (by omega))) ?_
    refine x_callv (v := Value.string ⟨(numG (l[k].size)).toArray⟩) rfl rfl rfl Tryz.func59 (by kernel_rfl) rfl (fun w1 hw1 => c_rNum _ w1 (by omega)) ?_
    refine x_val rfl rfl rfl (v_saddL rfl rfl (by omega)) ?_
    refine x_val rfl rfl rfl (v_move rfl) ?_
    refine x_val rfl rfl rfl (v_move rfl) ?_
    refine x_val rfl rfl rfl (v_indexAddr Tryz.underlying55 sz9 (congrArg (fun A => some (Value.slice A l.length c0)) hA0) rfl (by first | omega | (dsimp only; omega)) rfl) ?_
    refine x_val rfl rfl rfl (v_load Tryz.underlying9 rfl rfl (at_ro (.head _) trivial (by rw [Nat.mul_one]; exact hc0))) ?_
    refine x_val (v := Value.string ⟨(packT l (k + 1)).toArray⟩) rfl rfl rfl (by rw [packT_succ hkl, ← List.append_assoc, mk_app]; exact v_sadd rfl rfl (by rw [mk_size, List.length_append]; omega)) ?_
    refine x_val rfl rfl rfl (v_assign rfl) ?_
    refine x_end ?_
    refine b_norm ?_
    refine t_norm ?_
    refine rg_text ?_
    refine x_val rfl rfl rfl (v_move rfl) ?_
    refine x_val rfl rfl rfl (v_addi rfl rfl rfl (by first | omega | (dsimp only; omega))) ?_
    refine x_val rfl rfl rfl (v_assign rfl) ?_
    refine x_end ?_
    exact l_norm (k + 1) (show k + 1 ≤ l.length by omega) (by omega) (by repeat (first | exact Sub.nil | refine Sub.cons rfl ?_)) (fun _ h => h)
  · simp only [hb12, decide_eq_true_eq, decide_eq_false_iff_not, Bool.and_eq_true, Bool.or_eq_true, Bool.and_eq_false_iff, Bool.or_eq_false_iff, Bool.not_eq_true', Bool.not_eq_false', ne_eq, Decidable.not_not] at hc12
    obtain rfl : k = l.length := by omega
    refine w_exit ?_
    refine t_exit ?_
    refine t_exit ?_
    refine b_hit ?_
    refine t_norm ?_
    refine w_seq ?_
    refine rg_text ?_
    refine x_val rfl rfl rfl (v_move rfl) ?_
    refine x_val rfl rfl rfl (v_assign rfl) ?_
    refine x_end ?_
    refine t_norm ?_
    refine w_ret ?_
    refine ret1 rfl rfl (fun w' hm => ⟨?_, hm.base (by simp)⟩)
    rw [packT_all]
set_option maxRecDepth 100000 in
theorem c_Ints {D : Nat → Prop} {v : Value} {l : List Int} (w : World) (h : sliceRd tyI D w v l) (hll : l.length ≤ 1000000) :
    Calls Tryz.prog 55 #[v] w fun e w' => e = .returned (.string ⟨(intsG l).toArray⟩) ∧ Later w w' := by
  obtain ⟨A0, c0, rfl, hlc, hmx, -⟩ := id h
  have hin : ∀ n ∈ l, -9223372036854775808 ≤ n ∧ n ≤ 9223372036854775807 := rd_in h
  refine enter (vs := [Value.slice A0 l.length c0]) Tryz.func55 rfl Tryz.ntmps55 rfl ?_
  refine w_seq ?_
  refine rg_text ?_
  refine x_val rfl rfl rfl (v_assign rfl) ?_
  refine x_end ?_
  refine t_norm ?_
  refine w_seq ?_
  refine rg_text ?_
  refine x_alloc rfl rfl rfl zr130 ?_
  intro p3
  refine x_end ?_
  refine t_norm ?_
  refine w_seq ?_
  refine rg_text ?_
  refine x_val rfl rfl rfl (v_move rfl) ?_
  refine x_val rfl rfl rfl (v_len_slice Tryz.underlying22 rfl) ?_
  refine x_val rfl rfl rfl (v_convE (c := ((l.length : Nat) : Int)) Tryz.underlying3 Tryz.underlying107 rfl (u64_wrap (by omega))) ?_
  refine x_callv (v := Value.string ⟨(numG (l.length)).toArray⟩) rfl rfl rfl Tryz.func82 (by kernel_rfl) rfl (fun w1 hw1 => c_Num _ w1 (by omega)) ?_
  refine x_turnf (τ := RowS) (v := .tuple #[.int .i64 ((numG l.length).length : Nat), .nilIface]) (fun r' => rowOK 1 r' ([] ++ numG l.length).length (byC ([] ++ numG l.length))) (fun r' => (bld2 130 5 p3 (.pointer (some ⟨p3, 0, none⟩)) r' (([] ++ numG l.length).length)) ++ []) rfl rfl Tryz.func81 (by kernel_rfl) rfl (fun w1 hw1 => by
    have h := c_WS (l2 := []) (bs := []) (r := none) (pp := (.pointer none)) w1 (hw1.to (by first | rfl | simp [bld2, rowO])) (p := p3) (.inl rfl) ⟨(numG l.length).toArray⟩ rowOK_nil (by have := numG_ten (n := l.length) (by omega); (try show (0 : Nat) ≤ 4000000000000); omega) (by rw [mk_size]; have := numG_ten (n := l.length) (by omega); (try show (0 : Nat) ≤ 4000000000000); omega)
    rw [bl_mk, mk_size] at h
    exact h.mono fun e w2 ⟨h1, r', h2, h3⟩ => ⟨h1, r', h2, h3⟩) ?_
  intro r10 hr10
  rw [List.nil_append] at hr10
  refine x_end ?_
  refine t_norm ?_
  refine w_seq ?_
  refine w_seq ?_
  refine rg_text ?_
  refine x_val rfl rfl rfl (v_move rfl) ?_
  refine x_val rfl rfl rfl (v_len_slice Tryz.underlying22 rfl) ?_
  refine x_val rfl rfl rfl (v_move rfl) ?_
  refine x_end ?_
  refine t_norm ?_
  refine w_block ?_
  refine w_loop (σ := Nat × RowS) (fun x => x.1 ≤ l.length ∧ rowOK 1 x.2 (intsT l x.1).length (byC (intsT l x.1))) (fun x => [(3, Value.pointer (some ⟨p3, 0, none⟩)), (11, Value.slice A0 l.length c0), (12, Value.int .i64 (l.length : Nat)), (13, Value.int .i64 (x.1 : Nat))]) (fun x => (bld2 130 5 p3 (.pointer (some ⟨p3, 0, none⟩)) x.2 ((intsT l x.1).length)) ++ []) (fun x => [(w, fun _ => True)]) (fun x => l.length - x.1) ((0, r10)) (⟨Nat.zero_le _, by dsimp only; rw [intsT_zero]; exact hr10⟩) (l_start (by repeat (first | exact Sub.nil | refine Sub.cons rfl ?_)) (fun _ h => by rw [intsT_zero]; exact h)) ?_
  rintro ⟨k, r⟩ ⟨hk, hr⟩
  refine w_state ([(3, Value.pointer (some ⟨p3, 0, none⟩)), (11, Value.slice A0 l.length c0), (12, Value.int .i64 (l.length : Nat)), (13, Value.int .i64 (k : Nat))]) ((bld2 130 5 p3 (.pointer (some ⟨p3, 0, none⟩)) r ((intsT l k).length)) ++ []) ([(w, fun _ => True)]) ?_
  dsimp only at hk hr
  refine w_seq ?_
  refine rg_text ?_
  refine x_bool rfl rfl rfl (v_lss rfl rfl) ?_
  intro b14 hb14
  refine x_end ?_
  refine t_norm ?_
  refine w_seq ?_
  refine w_cond rfl (fun hc14 => ?_) (fun hc14 => ?_)
  · simp only [hb14, decide_eq_true_eq, decide_eq_false_iff_not, Bool.and_eq_true, Bool.or_eq_true, Bool.and_eq_false_iff, Bool.or_eq_false_iff, Bool.not_eq_true', Bool.not_eq_false', ne_eq, Decidable.not_not] at hc14
    have hkl : k < l.length := by omega
    obtain ⟨b0, o0, hA0, _, hc0, hk9⟩ := int_at h hkl
    have hz := intsT_len (by omega) hin k (by omega)
    have hz2 := numG_ten (sgn_lt hk9)
    refine w_skip ?_
    refine t_norm ?_
    refine w_seq ?_
    refine w_block ?_
    refine w_seq ?_
    refine rg_text ?_
    refine x_val rfl rfl rfl (v_indexAddr Tryz.underlying22 sz3 (congrArg (fun A => some (Value.slice A l.length c0)) hA0) rfl (by first | omega | (dsimp only; omega)) rfl) ?_
    refine x_val rfl rfl rfl (v_load Tryz.underlying3 rfl rfl (at_ro (.head _) trivial (by rw [Nat.mul_one]; exact hc0))) ?_
    refine x_val rfl rfl rfl (v_assign rfl) ?_
    refine x_end ?_
    refine t_norm ?_
    refine rg_text ?_
    refine x_val rfl rfl rfl (v_move rfl) ?_
    refine x_callv (v := Value.int .u64 ((sgn l[k] : Nat) : Int)) rfl rfl rfl Tryz.func84 (by kernel_rfl) rfl (fun w1 hw1 => c_Sgn _ w1 hk9) ?_
    refine x_callv (v := Value.string ⟨(numG (sgn l[k])).toArray⟩) rfl rfl rfl Tryz.func82 (by kernel_rfl) rfl (fun w1 hw1 => c_Num _ w1 (sgn_lt hk9)) ?_
    refine x_turnf (τ := RowS) (v := .tuple #[.int .i64 ((numG (sgn l[k])).length : Nat), .nilIface]) (fun r' => rowOK 1 r' ((intsT l k) ++ numG (sgn l[k])).length (byC ((intsT l k) ++ numG (sgn l[k])))) (fun r' => (bld2 130 5 p3 (.pointer (some ⟨p3, 0, none⟩)) r' (((intsT l k) ++ numG (sgn l[k])).length)) ++ []) rfl rfl Tryz.func81 (by kernel_rfl) rfl (fun w1 hw1 => by
      have h := c_WS (l2 := []) (bs := (intsT l k)) (r := r) (pp := (.pointer (some ⟨p3, 0, none⟩))) w1 (hw1.to (by first | rfl | simp [bld2, rowO])) (p := p3) (.inr rfl) ⟨(numG (sgn l[k])).toArray⟩ hr (by omega) (by rw [mk_size]; omega)
      rw [bl_mk, mk_size] at h
      exact h.mono fun e w2 ⟨h1, r', h2, h3⟩ => ⟨h1, r', h2, h3⟩) ?_
    intro r20 hr20
    refine x_end ?_
    refine b_norm ?_
    refine t_norm ?_
    refine rg_text ?_
    refine x_val rfl rfl rfl (v_addi rfl rfl rfl (by first | omega | (dsimp only; omega))) ?_
    refine x_val rfl rfl rfl (v_move rfl) ?_
    refine x_end ?_
    exact l_norm (x := (k, r)) (μ := fun q : Nat × RowS => l.length - q.1) (k + 1, r20) ⟨by dsimp only; omega, by dsimp only; rw [intsT_succ hkl]; exact hr20⟩ (by simp only; omega) (by repeat (first | exact Sub.nil | refine Sub.cons rfl ?_)) (fun _ h => by rw [intsT_succ hkl]; exact h)
  · simp only [hb14, decide_eq_true_eq, decide_eq_false_iff_not, Bool.and_eq_true, Bool.or_eq_true, Bool.and_eq_false_iff, Bool.or_eq_false_iff, Bool.not_eq_true', Bool.not_eq_false', ne_eq, Decidable.not_not] at hc14
    refine w_exit ?_
    refine t_exit ?_
    refine t_exit ?_
    refine b_hit ?_
    refine t_norm ?_
    refine w_seq ?_
    refine rg_text ?_
    obtain rfl : k = l.length := by omega
    rw [intsT_all] at hr
    refine x_turnf (τ := Unit) (v := .string ⟨(intsG l).toArray⟩) (fun _ => True) (fun _ => []) rfl rfl Tryz.func83 (by kernel_rfl) rfl (fun w1 hw1 => (c_BS (l2 := []) (bs := intsG l) w1 (hw1.to (by rw [intsT_all])) (p := p3) (.inr rfl) hr (B := w.heap.size) (fun q hq => by rw [List.mem_singleton.1 hq]; exact Nat.le_refl _) (fun q hq => by cases hq) (fun q hq => hw1.newer (by simp) (by rw [intsT_all]; exact List.mem_append_left _ hq)) (hw1.base (by simp)).size).mono fun e w2 h => ⟨h.1, (), trivial, h.2⟩) ?_
    intro _ _
    refine x_val rfl rfl rfl (v_assign rfl) ?_
    refine x_end ?_
    refine t_norm ?_
    refine w_ret ?_
    refine ret1 rfl rfl (fun w' hm => ⟨?_, hm.base (by simp)⟩)
    rfl
set_option maxRecDepth 100000 in
theorem c_Pack {D : Nat → Prop} {v : Value} {l : List ByteArray} (w : World) (h : sliceRd tyStr D w v l) (hll : l.length ≤ 1000000) (hsz : ∀ s ∈ l, s.size ≤ 2000000) :
    Calls Tryz.prog 53 #[v] w fun e w' => e = .returned (.string ⟨(packG l).toArray⟩) ∧ Later w w' := by
  obtain ⟨A0, c0, rfl, hlc, hmx, -⟩ := id h
  refine enter (vs := [Value.slice A0 l.length c0]) Tryz.func53 rfl Tryz.ntmps53 rfl ?_
  refine w_seq ?_
  refine rg_text ?_
  refine x_val rfl rfl rfl (v_assign rfl) ?_
  refine x_end ?_
  refine t_norm ?_
  refine w_seq ?_
  refine rg_text ?_
  refine x_alloc rfl rfl rfl zr130 ?_
  intro p3
  refine x_end ?_
  refine t_norm ?_
  refine w_seq ?_
  refine rg_text ?_
  refine x_val rfl rfl rfl (v_move rfl) ?_
  refine x_val rfl rfl rfl (v_len_slice Tryz.underlying55 rfl) ?_
  refine x_val rfl rfl rfl (v_convE (c := ((l.length : Nat) : Int)) Tryz.underlying3 Tryz.underlying107 rfl (u64_wrap (by omega))) ?_
  refine x_callv (v := Value.string ⟨(numG (l.length)).toArray⟩) rfl rfl rfl Tryz.func82 (by kernel_rfl) rfl (fun w1 hw1 => c_Num _ w1 (by omega)) ?_
  refine x_turnf (τ := RowS) (v := .tuple #[.int .i64 ((numG l.length).length : Nat), .nilIface]) (fun r' => rowOK 1 r' ([] ++ numG l.length).length (byC ([] ++ numG l.length))) (fun r' => (bld2 130 5 p3 (.pointer (some ⟨p3, 0, none⟩)) r' (([] ++ numG l.length).length)) ++ []) rfl rfl Tryz.func81 (by kernel_rfl) rfl (fun w1 hw1 => by
    have h := c_WS (l2 := []) (bs := []) (r := none) (pp := (.pointer none)) w1 (hw1.to (by first | rfl | simp [bld2, rowO])) (p := p3) (.inl rfl) ⟨(numG l.length).toArray⟩ rowOK_nil (by have := numG_ten (n := l.length) (by omega); (try show (0 : Nat) ≤ 4000000000000); omega) (by rw [mk_size]; have := numG_ten (n := l.length) (by omega); (try show (0 : Nat) ≤ 4000000000000); omega)
    rw [bl_mk, mk_size] at h
    exact h.mono fun e w2 ⟨h1, r', h2, h3⟩ => ⟨h1, r', h2, h3⟩) ?_
  intro r10 hr10
  rw [List.nil_append] at hr10
  refine x_end ?_
  refine t_norm ?_
  refine w_seq ?_
  refine w_seq ?_
  refine rg_text ?_
  refine x_val rfl rfl rfl (v_move rfl) ?_
  refine x_val rfl rfl rfl (v_len_slice Tryz.underlying55 rfl) ?_
  refine x_val rfl rfl rfl (v_move rfl) ?_
  refine x_end ?_
  refine t_norm ?_
  refine w_block ?_
  refine w_loop (σ := Nat × RowS) (fun x => x.1 ≤ l.length ∧ rowOK 1 x.2 (packT l x.1).length (byC (packT l x.1))) (fun x => [(3, Value.pointer (some ⟨p3, 0, none⟩)), (11, Value.slice A0 l.length c0), (12, Value.int .i64 (l.length : Nat)), (13, Value.int .i64 (x.1 : Nat))]) (fun x => (bld2 130 5 p3 (.pointer (some ⟨p3, 0, none⟩)) x.2 ((packT l x.1).length)) ++ []) (fun x => [(w, fun _ => True)]) (fun x => l.length - x.1) ((0, r10)) (⟨Nat.zero_le _, by dsimp only; rw [packT_zero]; exact hr10⟩) (l_start (by repeat (first | exact Sub.nil | refine Sub.cons rfl ?_)) (fun _ h => by rw [packT_zero]; exact h)) ?_
  rintro ⟨k, r⟩ ⟨hk, hr⟩
  refine w_state ([(3, Value.pointer (some ⟨p3, 0, none⟩)), (11, Value.slice A0 l.length c0), (12, Value.int .i64 (l.length : Nat)), (13, Value.int .i64 (k : Nat))]) ((bld2 130 5 p3 (.pointer (some ⟨p3, 0, none⟩)) r ((packT l k).length)) ++ []) ([(w, fun _ => True)]) ?_
  dsimp only at hk hr
  refine w_seq ?_
  refine rg_text ?_
  refine x_bool rfl rfl rfl (v_lss rfl rfl) ?_
  intro b14 hb14
  refine x_end ?_
  refine t_norm ?_
  refine w_seq ?_
  refine w_cond rfl (fun hc14 => ?_) (fun hc14 => ?_)
  · simp only [hb14, decide_eq_true_eq, decide_eq_false_iff_not, Bool.and_eq_true, Bool.or_eq_true, Bool.and_eq_false_iff, Bool.or_eq_false_iff, Bool.not_eq_true', Bool.not_eq_false', ne_eq, Decidable.not_not] at hc14
    have hkl : k < l.length := by omega
    obtain ⟨b0, o0, hA0, _, hc0, hk9⟩ := s_at h hkl
    have hz := packT_len (by omega) hsz (by decide) k (by omega)
    have hs9 := hsz _ (List.getElem_mem hkl)
    have hz2 := numG_ten (show l[k].size < 18446744073709551616 by omega)
    refine w_skip ?_
    refine t_norm ?_
    refine w_seq ?_
    refine w_block ?_
    refine w_seq ?_
    refine rg_text ?_
    refine x_val rfl rfl rfl (v_indexAddr Tryz.underlying55 sz9 (congrArg (fun A => some (Value.slice A l.length c0)) hA0) rfl (by first | omega | (dsimp only; omega)) rfl) ?_
    refine x_val rfl rfl rfl (v_load Tryz.underlying9 rfl rfl (at_ro (.head _) trivial (by rw [Nat.mul_one]; exact hc0))) ?_
    refine x_val rfl rfl rfl (v_assign rfl) ?_
    refine x_end ?_
    refine t_norm ?_
    refine rg_text ?_
    refine x_val rfl rfl rfl (v_move rfl) ?_
    refine x_val rfl rfl rfl (v_len_str Tryz.underlying9 rfl) ?_
    refine x_val rfl rfl rfl (v_convE (c := ((l[k].size : Nat) : Int)) Tryz.underlying3 Tryz.underlying107 rfl (u64_wrap (by omega))) ?_
    refine x_callv (v := Value.string ⟨(numG (l[k].size)).toArray⟩) rfl rfl rfl Tryz.func82 (by kernel_rfl) rfl (fun w1 hw1 => c_Num _ w1 (by omega)) ?_
    refine x_val rfl rfl rfl (v_move rfl) ?_
    refine x_val (v := Value.string ⟨(numG l[k].size ++ bl l[k]).toArray⟩) rfl rfl rfl (by rw [mk_app]; exact v_sadd rfl rfl (by rw [mk_size]; omega)) ?_
    refine x_turnf (τ := RowS) (v := .tuple #[.int .i64 (((numG l[k].size ++ bl l[k])).length : Nat), .nilIface]) (fun r' => rowOK 1 r' ((packT l k) ++ (numG l[k].size ++ bl l[k])).length (byC ((packT l k) ++ (numG l[k].size ++ bl l[k])))) (fun r' => (bld2 130 5 p3 (.pointer (some ⟨p3, 0, none⟩)) r' (((packT l k) ++ (numG l[k].size ++ bl l[k])).length)) ++ []) rfl rfl Tryz.func81 (by kernel_rfl) rfl (fun w1 hw1 => by
      have h := c_WS (l2 := []) (bs := (packT l k)) (r := r) (pp := (.pointer (some ⟨p3, 0, none⟩))) w1 (hw1.to (by first | rfl | simp [bld2, rowO])) (p := p3) (.inr rfl) ⟨((numG l[k].size ++ bl l[k])).toArray⟩ hr (by (try simp only [List.length_append, bl_len]); omega) (by rw [mk_size]; (try simp only [List.length_append, bl_len]); omega)
      rw [bl_mk, mk_size] at h
      exact h.mono fun e w2 ⟨h1, r', h2, h3⟩ => ⟨h1, r', h2, h3⟩) ?_
    intro r23 hr23
    refine x_end ?_
    refine b_norm ?_
    refine t_norm ?_
    refine rg_text ?_
    refine x_val rfl rfl rfl (v_addi rfl rfl rfl (by first | omega | (dsimp only; omega))) ?_
    refine x_val rfl rfl rfl (v_move rfl) ?_
    refine x_end ?_
    exact l_norm (x := (k, r)) (μ := fun q : Nat × RowS => l.length - q.1) (k + 1, r23) ⟨by dsimp only; omega, by dsimp only; rw [packT_succ hkl]; exact hr23⟩ (by simp only; omega) (by repeat (first | exact Sub.nil | refine Sub.cons rfl ?_)) (fun _ h => by rw [packT_succ hkl]; exact h)
  · simp only [hb14, decide_eq_true_eq, decide_eq_false_iff_not, Bool.and_eq_true, Bool.or_eq_true, Bool.and_eq_false_iff, Bool.or_eq_false_iff, Bool.not_eq_true', Bool.not_eq_false', ne_eq, Decidable.not_not] at hc14
    refine w_exit ?_
    refine t_exit ?_
    refine t_exit ?_
    refine b_hit ?_
    refine t_norm ?_
    refine w_seq ?_
    refine rg_text ?_
    obtain rfl : k = l.length := by omega
    rw [packT_all] at hr
    refine x_turnf (τ := Unit) (v := .string ⟨(packG l).toArray⟩) (fun _ => True) (fun _ => []) rfl rfl Tryz.func83 (by kernel_rfl) rfl (fun w1 hw1 => (c_BS (l2 := []) (bs := packG l) w1 (hw1.to (by rw [packT_all])) (p := p3) (.inr rfl) hr (B := w.heap.size) (fun q hq => by rw [List.mem_singleton.1 hq]; exact Nat.le_refl _) (fun q hq => by cases hq) (fun q hq => hw1.newer (by simp) (by rw [packT_all]; exact List.mem_append_left _ hq)) (hw1.base (by simp)).size).mono fun e w2 h => ⟨h.1, (), trivial, h.2⟩) ?_
    intro _ _
    refine x_val rfl rfl rfl (v_assign rfl) ?_
    refine x_end ?_
    refine t_norm ?_
    refine w_ret ?_
    refine ret1 rfl rfl (fun w' hm => ⟨?_, hm.base (by simp)⟩)
    rfl

end Go.Proofs.YtaniaihoodgmpaaGreatDoor

namespace Go.Proofs.YtaniaihoodgmpaaGreatDoor
open Go.RowKit Go.PK
set_option linter.unusedVariables false
set_option linter.unusedSimpArgs false
theorem rdE_in {D : Nat → Prop} {w : World} {A : Option Addr} {l c : Nat} {xs : List Ent} (h : sliceRd tyEnt D w (.slice A l c) xs) : ∀ x ∈ xs, entIn x := fun d hd => by
  obtain ⟨j, hj, rfl⟩ := List.getElem_of_mem hd
  obtain ⟨_, _, _, _, _, h1⟩ := ent_at h hj
  exact h1
set_option maxHeartbeats 1000000 in
set_option maxRecDepth 100000 in
theorem c_Enc {v1 v2 v3 : Value} {bs : Nat} (p : Pat) (es : List Ent) (w : World) (hS : SerRd w bs p es v1 v2 v3) (hlen : es.length ≤ 1000) (hL : LD w) :
    Calls Tryz.prog 21 #[.pointer (some ⟨bs, 0, none⟩)] w fun e w' => e = .returned (.string (encQ p es)) ∧ Later w w' := by
  obtain ⟨A1, c1, rfl, hlc1, hmx1, hB1⟩ := id hS.lvs
  obtain ⟨A2, c2, rfl, hlc2, hmx2, hB2⟩ := id hS.sts
  obtain ⟨A3, c3, rfl, hlc3, hmx3, hB3⟩ := id hS.ent
  refine enter (vs := [.pointer (some ⟨bs, 0, none⟩)]) Tryz.func21 rfl Tryz.ntmps21 rfl ?_
  refine w_seq ?_
  refine rg_text ?_
  refine x_val rfl rfl rfl (v_assign rfl) ?_
  refine x_end ?_
  refine t_norm ?_
  refine w_seq ?_
  refine w_seq ?_
  refine rg_text ?_
  refine x_val rfl rfl rfl (v_move rfl) ?_
  refine x_bool rfl rfl rfl (v_pnil (o := some ⟨bs, 0, none⟩) Tryz.underlying28 rfl rfl) ?_
  intro b8 hb8
  refine x_end ?_
  refine t_norm ?_
  refine w_cond rfl (fun hc8 => ?_) (fun hc8 => ?_)
  · simp [hb8] at hc8
  · skip
    refine w_skip ?_
    refine t_norm ?_
    refine w_seq ?_
    refine rg_text ?_
    refine x_val rfl rfl rfl (v_assign rfl) ?_
    refine x_end ?_
    refine t_norm ?_
    refine w_seq ?_
    refine w_seq ?_
    refine rg_text ?_
    refine x_val rfl rfl rfl (v_move rfl) ?_
    refine x_val rfl rfl rfl (v_nilCheck rfl) ?_
    refine x_val rfl rfl rfl (v_fieldAddr (off' := 4) Tryz.underlying61 rfl sz59 (by decide) rfl rfl) ?_
    refine x_val rfl rfl rfl (v_load Tryz.underlying59 rfl rfl (at_ro (.head _) trivial (hS.cells 4 (by simp)))) ?_
    refine x_val rfl rfl rfl (v_len_slice Tryz.underlying59 rfl) ?_
    refine x_val rfl rfl rfl (v_move rfl) ?_
    refine x_end ?_
    refine t_norm ?_
    refine w_block ?_
    refine w_loop (σ := Nat × RowS) (fun x => x.1 ≤ es.length ∧ rowOK 1 x.2 (x.1 * 4) ((entsI (es.take x.1)).map (Value.int .i64))) (fun x => [(0, .pointer (some ⟨bs, 0, none⟩)), (3, rowV x.2 (x.1 * 4)), (12, .slice A3 es.length c3), (13, Value.int .i64 (es.length : Nat)), (14, Value.int .i64 (x.1 : Nat))]) (fun x => rowO 3 x.2) (fun x => [(w, fun _ => True)]) (fun x => es.length - x.1) ((0, none)) (⟨Nat.zero_le _, rowOK_nil⟩) (l_start (by repeat (first | exact Sub.nil | refine Sub.cons rfl ?_)) (fun _ h => h)) ?_
    rintro ⟨k, R⟩ ⟨hk, hR⟩
    refine w_state ([(0, .pointer (some ⟨bs, 0, none⟩)), (3, rowV R (k * 4)), (12, .slice A3 es.length c3), (13, Value.int .i64 (es.length : Nat)), (14, Value.int .i64 (k : Nat))]) (rowO 3 R) ([(w, fun _ => True)]) ?_
    dsimp only at hk hR
    refine w_seq ?_
    refine rg_text ?_
    refine x_bool rfl rfl rfl (v_lss rfl rfl) ?_
    intro b15 hb15
    refine x_end ?_
    refine t_norm ?_
    refine w_seq ?_
    refine w_cond rfl (fun hc15 => ?_) (fun hc15 => ?_)
    · simp only [hb15, decide_eq_true_eq, decide_eq_false_iff_not, Bool.and_eq_true, Bool.or_eq_true, Bool.and_eq_false_iff, Bool.or_eq_false_iff, Bool.not_eq_true', Bool.not_eq_false', ne_eq, Decidable.not_not] at hc15
      have hkl : k < es.length := by omega
      obtain ⟨b0, o0, hA0, _, hc0, hin0⟩ := ent_at hS.ent hkl
      obtain ⟨e1, e2, e3⟩ := id hin0
      refine w_skip ?_
      refine t_norm ?_
      refine w_seq ?_
      refine w_block ?_
      refine w_seq ?_
      refine rg_text ?_
      refine x_val rfl rfl rfl (v_indexAddr Tryz.underlying59 sz85 (congrArg (fun A => some (Value.slice A es.length c3)) hA0) rfl (by first | omega | (dsimp only; omega)) rfl) ?_
      refine x_val rfl rfl rfl (v_loadN (vs := entC es[k]) Tryz.underlying85 rfl sz85 rfl (fun j hj => at_ro (.head _) trivial (hc0 j hj))) ?_
      refine x_alloc rfl rfl rfl zr85 ?_
      intro p5
      refine x_store0 [] rfl rfl rfl rfl sz85 rfl rfl ?_
      refine x_end ?_
      refine t_norm ?_
      refine w_seq ?_
      refine rg_text ?_
      refine x_val rfl rfl rfl (v_assign rfl) ?_
      refine x_end ?_
      refine t_norm ?_
      refine w_seq_cut (σ := Int) (fun z => z = if es[k].sk then 1 else 0) (fun z => [(0, .pointer (some ⟨bs, 0, none⟩)), (3, rowV R (k * 4)), (5, .pointer (some ⟨p5, 0, none⟩)), (6, Value.int .i64 z), (12, .slice A3 es.length c3), (13, Value.int .i64 (es.length : Nat)), (14, Value.int .i64 (k : Nat))]) (fun z => (p5, Obj.cells (entC es[k]).toArray 85 (0, 0)) :: rowO 3 R) (fun z => [(w, fun _ => True)]) ?_ ?_
      · refine w_seq ?_
        refine rg_text ?_
        refine x_val rfl rfl rfl (v_fieldAddr (off' := 2) Tryz.underlying85 rfl sz4 (by decide) rfl rfl) ?_
        refine x_bool rfl rfl rfl (v_load Tryz.underlying4 rfl rfl (at_ownL (vs := entC es[k]) (.head _) rfl)) ?_
        intro b19 hb19
        refine x_end ?_
        refine t_norm ?_
        refine w_cond rfl (fun hc19 => ?_) (fun hc19 => ?_)
        · have hsk : es[k].sk = true := hb19.symm.trans hc19
          refine rg_text ?_
          refine x_val rfl rfl rfl (v_assign rfl) ?_
          refine x_end ?_
          exact c_norm 1 (by rw [hsk]; rfl) (by repeat (first | exact Sub.nil | refine Sub.cons rfl ?_)) (fun _ h => h)
        · have hsk : es[k].sk = false := hb19.symm.trans hc19
          refine w_skip ?_
          exact c_norm 0 (by rw [hsk]; rfl) (by repeat (first | exact Sub.nil | refine Sub.cons rfl ?_)) (fun _ h => h)
      · rintro z hz
        refine w_state ([(0, .pointer (some ⟨bs, 0, none⟩)), (3, rowV R (k * 4)), (5, .pointer (some ⟨p5, 0, none⟩)), (6, Value.int .i64 z), (12, .slice A3 es.length c3), (13, Value.int .i64 (es.length : Nat)), (14, Value.int .i64 (k : Nat))]) ((p5, Obj.cells (entC es[k]).toArray 85 (0, 0)) :: rowO 3 R) ([(w, fun _ => True)]) ?_
        refine rg_text ?_
        refine x_val rfl rfl rfl (v_move rfl) ?_
        refine x_val rfl rfl rfl (v_fieldAddr (off' := 0) Tryz.underlying85 rfl sz3 (by decide) rfl rfl) ?_
        refine x_val rfl rfl rfl (v_load Tryz.underlying3 rfl rfl (at_ownL (vs := entC es[k]) (.head _) rfl)) ?_
        refine x_val rfl rfl rfl (v_fieldAddr (off' := 1) Tryz.underlying85 rfl sz3 (by decide) rfl rfl) ?_
        refine x_val rfl rfl rfl (v_load Tryz.underlying3 rfl rfl (at_ownL (vs := entC es[k]) (.head _) rfl)) ?_
        refine x_val rfl rfl rfl (v_move rfl) ?_
        refine x_val rfl rfl rfl (v_fieldAddr (off' := 3) Tryz.underlying85 rfl sz3 (by decide) rfl rfl) ?_
        refine x_val rfl rfl rfl (v_load Tryz.underlying3 rfl rfl (at_ownL (vs := entC es[k]) (.head _) rfl)) ?_
        refine x_buildSliceL (cs := [Value.int .i64 es[k].fr, Value.int .i64 es[k].to, Value.int .i64 z, Value.int .i64 es[k].day]) rfl rfl rfl Tryz.underlying22 sz3 zr3 rfl rfl rfl ?_
        intro p28
        refine x_append (e := 3) [(p28, Obj.cells ([Value.int .i64 es[k].fr, Value.int .i64 es[k].to, Value.int .i64 z, Value.int .i64 es[k].day]).toArray 3 (0, 0)), (p5, Obj.cells (entC es[k]).toArray 85 (0, 0))] (l2 := []) R (len := k * 4) (xs := (entsI (es.take k)).map (Value.int .i64)) rfl rfl rfl rfl (by simp only [List.append_nil]; rfl) hR Tryz.underlying22 ap3 rfl rfl (m := 4) (news := [Value.int .i64 es[k].fr, Value.int .i64 es[k].to, Value.int .i64 z, Value.int .i64 es[k].day]) (fun i hi => at_ownL (vs := [Value.int .i64 es[k].fr, Value.int .i64 es[k].to, Value.int .i64 z, Value.int .i64 es[k].day]) (.head _) (by rw [Nat.zero_add]; exact List.getElem?_eq_getElem hi)) rfl (by simp only [maxLen]; omega) (by omega) ?_
        intro R' hR'
        rw [List.append_nil]
        refine x_val rfl rfl rfl (v_assign rfl) ?_
        refine x_end ?_
        refine b_norm ?_
        refine t_norm ?_
        refine rg_text ?_
        refine x_val rfl rfl rfl (v_addi rfl rfl rfl (by first | omega | (dsimp only; omega))) ?_
        refine x_val rfl rfl rfl (v_move rfl) ?_
        refine x_end ?_
        exact l_norm (x := (k, R)) (μ := fun q : Nat × RowS => es.length - q.1) (k + 1, R') ⟨by dsimp only; omega, by dsimp only; rw [entsI_snoc hkl, List.map_append, show (k + 1) * 4 = k * 4 + 4 by omega]; subst hz; exact hR'⟩ (by simp only; omega) (by dsimp only; rw [show (k + 1) * 4 = k * 4 + 4 by omega]; exact (by repeat (first | exact Sub.nil | refine Sub.cons rfl ?_))) (fun w1 h => h.less (((List.Sublist.refl _).cons _).cons _) (fun _ h => h))
    · simp only [hb15, decide_eq_true_eq, decide_eq_false_iff_not, Bool.and_eq_true, Bool.or_eq_true, Bool.and_eq_false_iff, Bool.or_eq_false_iff, Bool.not_eq_true', Bool.not_eq_false', ne_eq, Decidable.not_not] at hc15
      obtain rfl : k = es.length := by omega
      rw [List.take_length] at hR
      have hin9 := entsI_in (rdE_in hS.ent)
      have hln9 := entsI_len es
      refine w_exit ?_
      refine t_exit ?_
      refine t_exit ?_
      refine b_hit ?_
      refine t_norm ?_
      refine w_seq ?_
      refine rg_text ?_
      refine x_val rfl rfl rfl (v_move rfl) ?_
      refine x_val rfl rfl rfl (v_nilCheck rfl) ?_
      refine x_val rfl rfl rfl (v_fieldAddr (off' := 0) Tryz.underlying61 rfl sz26 (by decide) rfl rfl) ?_
      refine x_val rfl rfl rfl (v_loadN (vs := ([Value.int .i64 p.first, Value.int .i64 p.days, Value.slice A1 p.lv.length c1, Value.slice A2 p.st.length c2, Value.slice A3 es.length c3]).take 4) Tryz.underlying26 rfl sz26 rfl (fun j hj => at_ro (.head _) trivial (by match j, hj with | 0, _ => exact hS.cells 0 (by simp) | 1, _ => exact hS.cells 1 (by simp) | 2, _ => exact hS.cells 2 (by simp) | 3, _ => exact hS.cells 3 (by simp)))) ?_
      refine x_callv rfl rfl rfl Tryz.func54 (by kernel_rfl) rfl (fun w1 hw1 => c_Write p w1 (patRd.keep (⟨hS.fst, hS.dys, hS.lvs, hS.sts⟩ : patRd (fun _ => True) w p (.slice A1 p.lv.length c1) (.slice A2 p.st.length c2)) (Kept.later (hw1.base (by simp)))) (hL.later (hw1.base (by simp)))) ?_
      refine x_val rfl rfl rfl (v_move rfl) ?_
      refine x_callv (v := Value.string ⟨(intsG (entsI es)).toArray⟩) rfl rfl rfl Tryz.func55 (by kernel_rfl) rfl (fun w1 hw1 => c_Ints w1 (rowI_rd (D := fun _ => True) (e := 3) hR hln9.symm hin9 hw1 (fun q hq => hq) (fun _ _ => trivial)) (by rw [hln9]; omega)) ?_
      refine x_buildSliceL (cs := [Value.string (writeQ p), Value.string ⟨(intsG (entsI es)).toArray⟩]) rfl rfl rfl Tryz.underlying55 sz9 zr9 rfl rfl rfl ?_
      intro p38
      have hz1 : (writeQ p).size ≤ 2000000 := by
        by_cases hq : rightQ p
        · have := wr_sz hq; omega
        · unfold writeQ; rw [if_neg hq]; decide
      have hz2 : (⟨(intsG (entsI es)).toArray⟩ : ByteArray).size ≤ 2000000 := by
        rw [mk_size, ← intsT_all]
        have := intsT_len (l := entsI es) (by omega) hin9 _ (Nat.le_refl _)
        omega
      refine x_callv (v := Value.string (encQ p es)) rfl rfl rfl Tryz.func53 (by kernel_rfl) rfl (fun w1 hw1 => c_Pack (l := [writeQ p, ⟨(intsG (entsI es)).toArray⟩]) (D := fun _ => True) w1 (row1_rd (T := tyStr) (e := 9) (r := some (p38, [writeQ p, ⟨(intsG (entsI es)).toArray⟩].map Value.string, 2)) Value.string rfl (rowOK_lit rfl (by simp [maxLen])) rfl (fun D9 w9 s hs => ⟨rfl, by unfold okS; rcases List.mem_cons.1 hs with rfl | hs; (· omega); rw [List.mem_singleton.1 hs]; omega⟩) hw1 (fun q hq => by rw [show q = _ from List.mem_singleton.1 hq]; exact .head _) (fun _ _ => trivial)) (by simp) (fun s hs => by rcases List.mem_cons.1 hs with rfl | hs; (· exact hz1); rw [List.mem_singleton.1 hs]; exact hz2)) ?_
      refine x_val rfl rfl rfl (v_assign rfl) ?_
      refine x_end ?_
      refine t_norm ?_
      refine w_ret ?_
      refine ret1 rfl rfl (fun w' hm => ⟨?_, hm.base (by simp)⟩)
      rfl
set_option maxRecDepth 100000 in
theorem c_Call {D : Nat → Prop} {v1 v2 : Value} (p : Pat) (a : ActD) (w : World) (hp : patRd D w p v1 v2) (hq : rightQ p) (ha : actIn a) :
    Calls Tryz.prog 12 #[.agg (actC a).toArray, .agg #[.int .i64 p.first, .int .i64 p.days, v1, v2]] w fun e w' => e = .returned (.tuple #[.string (callT p a), .int .i64 (callD p a)]) ∧ Later w w' := by
  obtain ⟨hp1, hp2, h1, h2⟩ := id hp
  obtain ⟨A1, c1, rfl, hlc1, hmx1, hB1⟩ := id h1
  obtain ⟨A2, c2, rfl, hlc2, hmx2, hB2⟩ := id h2
  obtain ⟨bL, oL, hL0, hLk⟩ := rd_blk h1
  obtain ⟨bS, oS, hS0, hSk⟩ := rd_blk h2
  have e1 := Int.emod_nonneg a.fr (show (200 : Int) ≠ 0 by decide)
  have e2 := Int.emod_lt_of_pos a.fr (show (0 : Int) < 200 by decide)
  have e3 := Int.emod_nonneg a.to (show (320 : Int) ≠ 0 by decide)
  have e4 := Int.emod_lt_of_pos a.to (show (0 : Int) < 320 by decide)
  have s1 := isT_sz hq e1 (by omega) a.sk
  have s2 := txN_sz hq e3 (by omega)
  have s3 := txN_sz hq e1 (by omega)
  refine enter (vs := [.agg (actC a).toArray, .agg #[.int .i64 p.first, .int .i64 p.days, .slice A1 p.lv.length c1, .slice A2 p.st.length c2]]) Tryz.func12 rfl Tryz.ntmps12 rfl ?_
  refine w_seq ?_
  refine rg_text ?_
  refine x_box rfl rfl rfl rfl ?_
  intro p2
  refine x_box rfl rfl rfl rfl ?_
  intro p3
  refine x_val rfl rfl rfl (v_assign rfl) ?_
  refine x_val rfl rfl rfl (v_assign rfl) ?_
  refine x_end ?_
  refine t_norm ?_
  refine w_seq ?_
  refine rg_text ?_
  refine x_val rfl rfl rfl (v_fieldAddr (off' := 0) Tryz.underlying26 rfl sz3 (by decide) rfl rfl) ?_
  refine x_val rfl rfl rfl (v_load Tryz.underlying3 rfl rfl (at_ownL (by repeat (first | exact List.Mem.head _ | apply List.Mem.tail)) rfl)) ?_
  refine x_val rfl rfl rfl (v_fieldAddr (off' := 2) Tryz.underlying34 rfl sz3 (by decide) rfl rfl) ?_
  refine x_val rfl rfl rfl (v_load Tryz.underlying3 rfl rfl (at_ownL (vs := actC a) (by repeat (first | exact List.Mem.head _ | apply List.Mem.tail)) rfl)) ?_
  refine x_val (v := Value.int .i64 (callD p a)) rfl rfl rfl (v_add rfl rfl) ?_
  refine x_val rfl rfl rfl (v_assign rfl) ?_
  refine x_end ?_
  refine t_norm ?_
  refine w_seq ?_
  refine w_seq ?_
  refine rg_text ?_
  refine x_val rfl rfl rfl (v_fieldAddr (off' := 5) Tryz.underlying34 rfl sz9 (by decide) rfl rfl) ?_
  refine x_val rfl rfl rfl (v_load Tryz.underlying9 rfl rfl (at_ownL (vs := actC a) (by repeat (first | exact List.Mem.head _ | apply List.Mem.tail)) rfl)) ?_
  refine x_bool rfl rfl rfl (v_sneq rfl rfl) ?_
  intro b15 hb15
  refine x_end ?_
  refine t_norm ?_
  refine w_cond rfl (fun hc15 => ?_) (fun hc15 => ?_)
  · simp only [hb15, decide_eq_true_eq, decide_eq_false_iff_not, Bool.and_eq_true, Bool.or_eq_true, Bool.and_eq_false_iff, Bool.or_eq_false_iff, Bool.not_eq_true', Bool.not_eq_false', ne_eq, Decidable.not_not] at hc15
    have hraw : a.raw ≠ ⟨#[]⟩ := hc15
    refine w_seq ?_
    refine rg_text ?_
    refine x_val rfl rfl rfl (v_fieldAddr (off' := 5) Tryz.underlying34 rfl sz9 (by decide) rfl rfl) ?_
    refine x_val rfl rfl rfl (v_load Tryz.underlying9 rfl rfl (at_ownL (vs := actC a) (by repeat (first | exact List.Mem.head _ | apply List.Mem.tail)) rfl)) ?_
    refine x_val rfl rfl rfl (v_move rfl) ?_
    refine x_val rfl rfl rfl (v_assign rfl) ?_
    refine x_val rfl rfl rfl (v_assign rfl) ?_
    refine x_end ?_
    refine t_norm ?_
    refine w_ret ?_
    refine t_ret ?_
    refine ret2 rfl rfl rfl (fun w' hm => ⟨?_, hm.base (by simp)⟩)
    unfold callT; rw [if_pos hraw]
  · simp only [hb15, decide_eq_true_eq, decide_eq_false_iff_not, Bool.and_eq_true, Bool.or_eq_true, Bool.and_eq_false_iff, Bool.or_eq_false_iff, Bool.not_eq_true', Bool.not_eq_false', ne_eq, Decidable.not_not] at hc15
    have hraw : ¬a.raw ≠ ⟨#[]⟩ := fun h => h hc15
    refine w_skip ?_
    refine t_norm ?_
    refine w_seq ?_
    refine rg_draw 6 [(true, 0), (true, 1), (true, 2), (true, 3), (true, 4), (true, 5)] (by kernel_rfl) (by kernel_rfl) ?_
    refine x_val rfl rfl rfl (v_load_blk (e := 26) (fz := (0, 0)) (cs := #[Value.int .i64 p.first, Value.int .i64 p.days, Value.slice A1 p.lv.length c1, Value.slice A2 p.st.length c2]) Tryz.underlying26 rfl rfl (.head _) (by exact sz26)) ?_
    refine x_val rfl rfl rfl (v_fieldAddr (off' := 0) Tryz.underlying34 rfl sz3 (by decide) rfl rfl) ?_
    refine x_val rfl rfl rfl (v_load Tryz.underlying3 rfl rfl (at_ownL (vs := actC a) (by repeat (first | exact List.Mem.head _ | apply List.Mem.tail)) rfl)) ?_
    refine x_callv (v := Value.int .i64 (a.fr % 200)) rfl rfl rfl Tryz.func15 (by kernel_rfl) rfl (fun w1 hw1 => c_Md _ 200 w1 ha.1 (by decide)) ?_
    refine x_callv (v := Value.string (txN (numsP p (a.fr % 200)))) rfl rfl rfl Tryz.func36 (by kernel_rfl) rfl (fun w1 hw1 => c_Text p (a.fr % 200) w1 (hp.keep (Kept.later (hw1.base (by simp)))) hq e1 (by omega)) ?_
    refine x_val rfl rfl rfl (v_assign rfl) ?_
    refine x_end ?_
    refine t_norm ?_
    refine w_seq_cut (σ := Unit) (fun q => True) (fun q => [(2, .pointer (some ⟨p2, 0, none⟩)), (3, .pointer (some ⟨p3, 0, none⟩)), (6, Value.int .i64 (callD p a)), (7, Value.string (isT p a.sk (a.fr % 200)))]) (fun q => [(p3, Obj.cells #[Value.int .i64 p.first, Value.int .i64 p.days, Value.slice A1 p.lv.length c1, Value.slice A2 p.st.length c2] 26), (p2, Obj.cells (actC a).toArray 34 (0, 0))]) (fun q => [(w, fun _ => True)]) ?_ ?_
    · refine w_seq ?_
      refine rg_text ?_
      refine x_val rfl rfl rfl (v_fieldAddr (off' := 3) Tryz.underlying34 rfl sz4 (by decide) rfl rfl) ?_
      refine x_bool rfl rfl rfl (v_load Tryz.underlying4 rfl rfl (at_ownL (vs := actC a) (by repeat (first | exact List.Mem.head _ | apply List.Mem.tail)) rfl)) ?_
      intro b25 hb25
      refine x_end ?_
      refine t_norm ?_
      refine w_cond rfl (fun hc25 => ?_) (fun hc25 => ?_)
      · have hsk : a.sk = true := hb25.symm.trans hc25
        refine rg_text ?_
        refine x_val rfl rfl rfl (v_move rfl) ?_
        refine x_val rfl rfl rfl (v_sadd (s := ⟨#[120]⟩) rfl rfl (by show 1 + _ ≤ _; omega)) ?_
        refine x_val rfl rfl rfl (v_assign rfl) ?_
        refine x_end ?_
        exact c_norm () trivial (by rw [hsk]; exact (by repeat (first | exact Sub.nil | refine Sub.cons rfl ?_))) (fun _ h => h)
      · have hsk : a.sk = false := hb25.symm.trans hc25
        refine w_skip ?_
        exact c_norm () trivial (by rw [hsk]; exact (by repeat (first | exact Sub.nil | refine Sub.cons rfl ?_))) (fun _ h => h)
    · rintro _ _
      refine w_state ([(2, .pointer (some ⟨p2, 0, none⟩)), (3, .pointer (some ⟨p3, 0, none⟩)), (6, Value.int .i64 (callD p a)), (7, Value.string (isT p a.sk (a.fr % 200)))]) ([(p3, Obj.cells #[Value.int .i64 p.first, Value.int .i64 p.days, Value.slice A1 p.lv.length c1, Value.slice A2 p.st.length c2] 26), (p2, Obj.cells (actC a).toArray 34 (0, 0))]) ([(w, fun _ => True)]) ?_
      refine w_seq ?_
      refine w_seq ?_
      refine rg_text ?_
      refine x_val rfl rfl rfl (v_fieldAddr (off' := 4) Tryz.underlying34 rfl sz4 (by decide) rfl rfl) ?_
      refine x_bool rfl rfl rfl (v_load Tryz.underlying4 rfl rfl (at_ownL (vs := actC a) (by repeat (first | exact List.Mem.head _ | apply List.Mem.tail)) rfl)) ?_
      intro b29 hb29
      refine x_end ?_
      refine t_norm ?_
      refine w_cond rfl (fun hc29 => ?_) (fun hc29 => ?_)
      · have htw : a.two = true := hb29.symm.trans hc29
        refine rg_draw 9 [(true, 0), (true, 1), (true, 2), (true, 3), (true, 4), (true, 5), (true, 6), (true, 7), (true, 8)] (by kernel_rfl) (by kernel_rfl) ?_
        refine x_val rfl rfl rfl (v_move rfl) ?_
        refine x_val rfl rfl rfl (v_sadd (u := ⟨#[45]⟩) rfl rfl (by show _ + 1 ≤ _; omega)) ?_
        refine x_val rfl rfl rfl (v_load_blk (e := 26) (fz := (0, 0)) (cs := #[Value.int .i64 p.first, Value.int .i64 p.days, Value.slice A1 p.lv.length c1, Value.slice A2 p.st.length c2]) Tryz.underlying26 rfl rfl (.head _) (by exact sz26)) ?_
        refine x_val rfl rfl rfl (v_fieldAddr (off' := 1) Tryz.underlying34 rfl sz3 (by decide) rfl rfl) ?_
        refine x_val rfl rfl rfl (v_load Tryz.underlying3 rfl rfl (at_ownL (vs := actC a) (by repeat (first | exact List.Mem.head _ | apply List.Mem.tail)) rfl)) ?_
        refine x_callv (v := Value.int .i64 (a.to % 320)) rfl rfl rfl Tryz.func15 (by kernel_rfl) rfl (fun w1 hw1 => c_Md _ 320 w1 ha.2.1 (by decide)) ?_
        refine x_callv (v := Value.string (txN (numsP p (a.to % 320)))) rfl rfl rfl Tryz.func36 (by kernel_rfl) rfl (fun w1 hw1 => c_Text p (a.to % 320) w1 (hp.keep (Kept.later (hw1.base (by simp)))) hq e3 (by omega)) ?_
        refine x_val rfl rfl rfl (v_sadd rfl rfl (by rw [ByteArray.size_append]; show _ + 1 + _ ≤ _; omega)) ?_
        refine x_val rfl rfl rfl (v_assign rfl) ?_
        refine x_end ?_
        refine t_norm ?_
        refine w_seq ?_
        refine rg_text ?_
        refine x_val rfl rfl rfl (v_move rfl) ?_
        refine x_val rfl rfl rfl (v_move rfl) ?_
        refine x_val rfl rfl rfl (v_assign rfl) ?_
        refine x_val rfl rfl rfl (v_assign rfl) ?_
        refine x_end ?_
        refine t_norm ?_
        refine w_ret ?_
        refine ret2 rfl rfl rfl (fun w' hm => ⟨?_, hm.base (by simp)⟩)
        unfold callT; rw [if_neg hraw, if_pos htw]
      · have htw : a.two = false := hb29.symm.trans hc29
        refine w_skip ?_
        refine t_norm ?_
        refine w_seq ?_
        refine rg_text ?_
        refine x_val rfl rfl rfl (v_move rfl) ?_
        refine x_val rfl rfl rfl (v_move rfl) ?_
        refine x_val rfl rfl rfl (v_assign rfl) ?_
        refine x_val rfl rfl rfl (v_assign rfl) ?_
        refine x_end ?_
        refine t_norm ?_
        refine w_ret ?_
        refine ret2 rfl rfl rfl (fun w' hm => ⟨?_, hm.base (by simp)⟩)
        unfold callT; rw [if_neg hraw, htw]; rfl

end Go.Proofs.YtaniaihoodgmpaaGreatDoor

namespace Go.Proofs.YtaniaihoodgmpaaGreatDoor
open Go.RowKit Go.PK
set_option linter.unusedVariables false
set_option linter.unusedSimpArgs false
end Go.Proofs.YtaniaihoodgmpaaGreatDoor

namespace Go.Proofs.YtaniaihoodgmpaaGreatDoor
open Go.RowKit Go.PK
set_option linter.unusedVariables false
set_option linter.unusedSimpArgs false
theorem ap91 : (Tryz.prog.info? 91).map (fun j => (j.zero, j.size, j.bytes)) = some (some (.agg #[.int .i64 0, .int .i64 0, .bool false, .int .i64 0]), 4, 32) := by kernel_rfl
set_option maxRecDepth 100000 in
theorem c_rNew {D : Nat → Prop} {v1 v2 : Value} (p : Pat) (w : World) (hp : patRd D w p v1 v2) (hq : rightQ p) :
    Calls Tryz.prog 11 #[.agg #[.int .i64 p.first, .int .i64 p.days, v1, v2]] w fun e w' => ∃ b, e = .returned (.pointer (some ⟨b, 0, none⟩)) ∧ Later w w' ∧ Mem w' [(b, Obj.cells ([Value.int .i64 p.first, Value.int .i64 p.days, v1, v2, Value.slice none 0 0]).toArray 74 (0, 0))] [(w, fun _ => True)] := by
  obtain ⟨hp1, hp2, h1, h2⟩ := id hp
  obtain ⟨A1, c1, rfl, hlc1, hmx1, hB1⟩ := id h1
  obtain ⟨A2, c2, rfl, hlc2, hmx2, hB2⟩ := id h2
  obtain ⟨bL, oL, hL0, hLk⟩ := rd_blk h1
  obtain ⟨bS, oS, hS0, hSk⟩ := rd_blk h2
  refine enter (vs := [.agg #[.int .i64 p.first, .int .i64 p.days, .slice A1 p.lv.length c1, .slice A2 p.st.length c2]]) Tryz.func11 rfl Tryz.ntmps11 rfl ?_
  refine w_seq ?_
  refine rg_text ?_
  refine x_box rfl rfl rfl rfl ?_
  intro p1
  refine x_val rfl rfl rfl (v_assign rfl) ?_
  refine x_end ?_
  refine t_norm ?_
  refine w_seq ?_
  refine rg_text ?_
  refine x_val rfl rfl rfl (v_load_blk (e := 26) (fz := (0, 0)) (cs := #[Value.int .i64 p.first, Value.int .i64 p.days, Value.slice A1 p.lv.length c1, Value.slice A2 p.st.length c2]) Tryz.underlying26 rfl rfl (.head _) (by exact sz26)) ?_
  refine x_callb rfl rfl rfl Tryz.func35 (by kernel_rfl) rfl (fun w1 hw1 => c_rRight p w1 (hp.keep (Kept.later (hw1.base (by simp))))) ?_
  intro b5 hb5
  refine x_val rfl rfl rfl (v_assign rfl) ?_
  refine x_end ?_
  refine t_norm ?_
  refine w_seq ?_
  refine w_seq ?_
  refine rg_text ?_
  refine x_val rfl rfl rfl (v_move rfl) ?_
  refine x_bool rfl rfl rfl (v_not rfl) ?_
  intro b7 hb7
  refine x_end ?_
  refine t_norm ?_
  refine w_cond rfl (fun hc7 => ?_) (fun hc7 => ?_)
  · rw [hb7, hb5, decide_eq_true hq] at hc7; cases hc7
  · skip
    refine w_skip ?_
    refine t_norm ?_
    refine w_seq ?_
    refine rg_text ?_
    refine x_val rfl rfl rfl (v_load_blk (e := 26) (fz := (0, 0)) (cs := #[Value.int .i64 p.first, Value.int .i64 p.days, Value.slice A1 p.lv.length c1, Value.slice A2 p.st.length c2]) Tryz.underlying26 rfl rfl (.head _) (by exact sz26)) ?_
    refine x_val (v := Value.agg ([Value.int .i64 p.first, Value.int .i64 p.days, Value.slice A1 p.lv.length c1, Value.slice A2 p.st.length c2, Value.slice none 0 0]).toArray) rfl rfl rfl (v_buildL (places := [(0, 4), (4, 1)]) Tryz.underlying74 zr74 (by kernel_rfl) rfl rfl) ?_
    refine x_box rfl rfl rfl rfl ?_
    intro p12
    refine x_val rfl rfl rfl (v_assign rfl) ?_
    refine x_end ?_
    refine t_norm ?_
    refine w_ret ?_
    refine ret1 rfl rfl (fun w' hm => ⟨p12, rfl, hm.base (by simp), hm.less (List.Sublist.cons_cons _ (List.nil_sublist _)) (fun _ h => h)⟩)
set_option maxRecDepth 100000 in
theorem c_rNs (s : ByteArray) (i0 : Nat) (w : World) (hs : s.size ≤ 2000000) (hi0 : i0 ≤ 2000001) :
    Calls Tryz.prog 45 #[.string s, .int .i64 (i0 : Nat)] w fun e w' => ∃ v, e = .returned (.tuple #[v, .int .i64 ((nsR s 5 i0 []).2.1 : Nat), .bool (nsR s 5 i0 []).2.2]) ∧ Later w w' ∧ sliceRd tyI (fun b => w.heap.size ≤ b) w' v (nsR s 5 i0 []).1 := by
  refine enter (vs := [.string s, .int .i64 (i0 : Nat)]) Tryz.func45 rfl Tryz.ntmps45 rfl ?_
  refine w_seq ?_
  refine rg_text ?_
  refine x_val rfl rfl rfl (v_assign rfl) ?_
  refine x_val rfl rfl rfl (v_assign rfl) ?_
  refine x_val rfl rfl rfl (v_assign rfl) ?_
  refine x_end ?_
  refine t_norm ?_
  refine w_seq ?_
  refine rg_text ?_
  refine x_val rfl rfl rfl (v_assign rfl) ?_
  refine x_end ?_
  refine t_norm ?_
  refine w_block ?_
  refine w_loop (σ := List Int × Nat × RowS) (fun x => x.1.length ≤ 4 ∧ (∀ d ∈ x.1, in64 d) ∧ x.2.1 ≤ 2000001 ∧ nsR s (5 - x.1.length) x.2.1 x.1 = nsR s 5 i0 [] ∧ rowOK 1 x.2.2 x.1.length (x.1.map (Value.int .i64))) (fun x => [(0, Value.string s), (1, Value.int .i64 (x.2.1 : Nat)), (7, rowV x.2.2 x.1.length)]) (fun x => rowO 3 x.2.2) (fun x => [(w, fun _ => True)]) (fun x => 5 - x.1.length) (([], i0, none)) (⟨Nat.zero_le _, (fun d hd => by cases hd), hi0, rfl, rowOK_nil⟩) (l_start (by repeat (first | exact Sub.nil | refine Sub.cons rfl ?_)) (fun _ h => h)) ?_
  rintro ⟨out, i, R⟩ ⟨hol, hin, hi, hN, hR⟩
  refine w_state ([(0, Value.string s), (1, Value.int .i64 (i : Nat)), (7, rowV R out.length)]) (rowO 3 R) ([(w, fun _ => True)]) ?_
  dsimp only at hol hin hi hN hR
  have hvr := val_rng s i
  have hva := val_at s i
  obtain ⟨f, hf⟩ : ∃ f, 5 - out.length = f + 1 := ⟨4 - out.length, by omega⟩
  rw [hf, nsR] at hN
  obtain ⟨n, hn⟩ : ∃ n, (valR s i).1 = n := ⟨_, rfl⟩
  rw [hn] at hvr hN
  refine w_block ?_
  refine w_seq ?_
  refine rg_text ?_
  refine x_val rfl rfl rfl (v_move rfl) ?_
  refine x_val rfl rfl rfl (v_move rfl) ?_
  refine x_callv rfl rfl rfl Tryz.func78 (by kernel_rfl) rfl (fun w1 hw1 => c_value s i w1 hs (by omega)) ?_
  refine x_val rfl rfl rfl (v_move rfl) ?_
  refine x_val (v := Value.int .i64 n) rfl rfl rfl (by rw [← hn]; exact v_extract rfl rfl) ?_
  refine x_val rfl rfl rfl (v_extract rfl rfl) ?_
  refine x_bool rfl rfl rfl (v_extract rfl rfl) ?_
  intro b17 hb17
  refine x_val rfl rfl rfl (v_assign rfl) ?_
  refine x_val rfl rfl rfl (v_assign rfl) ?_
  refine x_val rfl rfl rfl (v_assign rfl) ?_
  refine x_end ?_
  refine t_norm ?_
  refine w_seq ?_
  refine w_seq ?_
  refine rg_text ?_
  refine x_val rfl rfl rfl (v_move rfl) ?_
  refine x_bool rfl rfl rfl (v_not rfl) ?_
  intro b19 hb19
  refine x_val rfl rfl rfl (v_move rfl) ?_
  refine x_if [] rfl rfl rfl rfl rfl (fun hg => by obtain ⟨hg0, _⟩ := hg; subst hg0; (try simp only [List.cons_append, List.nil_append, gvl_nil, gvl_t, gvl_f]); exact v_move rfl) ?_
  refine x_if [] rfl rfl rfl rfl rfl (fun hg => by obtain ⟨hg0, _⟩ := hg; subst hg0; (try simp only [List.cons_append, List.nil_append, gvl_nil, gvl_t, gvl_f]); exact v_len_slice Tryz.underlying22 rfl) ?_
  refine x_ifb [] rfl rfl rfl rfl rfl (fun hg => by obtain ⟨hg0, _⟩ := hg; subst hg0; (try simp only [List.cons_append, List.nil_append, gvl_nil, gvl_t, gvl_f]); exact v_eql rfl rfl) ?_
  intro b23 hb23
  refine x_bool rfl rfl rfl (v_or rfl rfl) ?_
  intro b24 hb24
  refine x_end ?_
  refine t_norm ?_
  refine w_cond rfl (fun hc24 => ?_) (fun hc24 => ?_)
  · simp only [hb24, hb23, hb19, hb17, decide_eq_true_eq, decide_eq_false_iff_not, Bool.and_eq_true, Bool.or_eq_true, Bool.and_eq_false_iff, Bool.or_eq_false_iff, Bool.not_eq_true', Bool.not_eq_false', ne_eq, Decidable.not_not] at hc24
    rw [if_pos (by rcases hc24 with h | h; (· simp [h]); simp [show out.length = 4 by omega])] at hN
    refine w_seq ?_
    refine rg_text ?_
    refine x_val rfl rfl rfl (v_move rfl) ?_
    refine x_val rfl rfl rfl (v_assign rfl) ?_
    refine x_val rfl rfl rfl (v_assign rfl) ?_
    refine x_val rfl rfl rfl (v_assign rfl) ?_
    refine x_end ?_
    refine t_norm ?_
    refine w_ret ?_
    refine t_ret ?_
    refine b_ret ?_
    refine t_ret ?_
    refine b_ret ?_
    refine ret3 rfl rfl rfl rfl (fun w' hm => ⟨_, by rw [← hN], hm.base (by simp), by rw [← hN]; exact ⟨none, 0, rfl, Nat.le_refl _, Nat.zero_le _, fun h => absurd h (Nat.lt_irrefl 0)⟩⟩)
  · simp only [hb24, hb23, hb19, hb17, decide_eq_true_eq, decide_eq_false_iff_not, Bool.and_eq_true, Bool.or_eq_true, Bool.and_eq_false_iff, Bool.or_eq_false_iff, Bool.not_eq_true', Bool.not_eq_false', ne_eq, Decidable.not_not] at hc24
    have hvo : (valR s i).2.2 = true := by simpa using hc24.1
    have hl3 : out.length < 4 := by have := hc24.2; omega
    obtain ⟨_, _, _, hvs, _⟩ := val_ok hvo
    rw [if_neg (by rw [hvo]; simp; omega)] at hN
    refine w_skip ?_
    refine t_norm ?_
    refine w_seq ?_
    refine rg_text ?_
    refine x_val rfl rfl rfl (v_move rfl) ?_
    refine x_val rfl rfl rfl (v_move rfl) ?_
    refine x_buildSliceL (cs := [Value.int .i64 n]) rfl rfl rfl Tryz.underlying22 sz3 zr3 rfl rfl rfl ?_
    intro p28
    refine x_append (e := 3) [(p28, Obj.cells [Value.int .i64 n].toArray 3)] (l2 := []) R (len := out.length) (xs := out.map (Value.int .i64)) rfl rfl rfl rfl (by simp) hR Tryz.underlying22 ap3 rfl rfl (m := 1) (news := [Value.int .i64 n]) (fun i hi => at_ownL (vs := [Value.int .i64 n]) (.head _) (by rw [Nat.zero_add]; exact List.getElem?_eq_getElem hi)) rfl (by simp only [maxLen]; omega) (by omega) ?_
    intro R' hR'
    have hR' : rowOK 1 R' (out ++ [n]).length ((out ++ [n]).map (Value.int .i64)) := by rw [List.length_append, List.map_append]; exact hR'
    refine x_val rfl rfl rfl (v_assign rfl) ?_
    refine x_end ?_
    refine t_norm ?_
    refine w_seq ?_
    refine w_seq ?_
    refine rg_text ?_
    refine x_val rfl rfl rfl (v_move rfl) ?_
    refine x_val rfl rfl rfl (v_move rfl) ?_
    refine x_val rfl rfl rfl (v_len_str Tryz.underlying9 rfl) ?_
    refine x_bool rfl rfl rfl (v_eql rfl rfl) ?_
    intro b33 hb33
    refine x_val rfl rfl rfl (v_move rfl) ?_
    refine x_if [] rfl rfl rfl rfl rfl (fun hg => by obtain ⟨hg0, _⟩ := hg; subst hg0; (try simp only [List.cons_append, List.nil_append, gvl_nil, gvl_t, gvl_f]); exact v_move rfl) ?_
    refine x_if [] rfl rfl rfl rfl rfl (fun hg => by obtain ⟨hg0, _⟩ := hg; subst hg0; (try simp only [List.cons_append, List.nil_append, gvl_nil, gvl_t, gvl_f]); exact v_move rfl) ?_
    refine x_if [] rfl rfl rfl rfl rfl (fun hg => by obtain ⟨hg0, _⟩ := hg; subst hg0; (try simp only [List.cons_append, List.nil_append, gvl_nil, gvl_t, gvl_f]); exact v_index (j := (valR s i).2.1) Tryz.underlying9 rfl rfl (by have h9 : ¬_ := of_decide_eq_false hb33.symm; omega)) ?_
    refine x_ifb [] rfl rfl rfl rfl rfl (fun hg => by obtain ⟨hg0, _⟩ := hg; subst hg0; (try simp only [List.cons_append, List.nil_append, gvl_nil, gvl_t, gvl_f]); exact v_neq rfl rfl) ?_
    intro b38 hb38
    refine x_bool rfl rfl rfl (v_or rfl rfl) ?_
    intro b39 hb39
    refine x_end ?_
    refine t_norm ?_
    refine w_cond rfl (fun hc39 => ?_) (fun hc39 => ?_)
    · simp only [hb39, hb38, hb33, decide_eq_true_eq, decide_eq_false_iff_not, Bool.and_eq_true, Bool.or_eq_true, Bool.and_eq_false_iff, Bool.or_eq_false_iff, Bool.not_eq_true', Bool.not_eq_false', ne_eq, Decidable.not_not] at hc39
      rw [if_pos (by rcases hc39 with h | h; (· exact .inl (by omega)); by_cases h9 : (valR s i).2.1 = s.size; (· exact .inl h9); exact .inr (fun h8 => by have h7 := (at_iff (by omega)).1 h8; have h7 : (byteAt s (valR s i).2.1).toNat = 47 := h7; omega))] at hN
      refine w_seq ?_
      refine rg_text ?_
      refine x_val rfl rfl rfl (v_move rfl) ?_
      refine x_val rfl rfl rfl (v_move rfl) ?_
      refine x_val rfl rfl rfl (v_assign rfl) ?_
      refine x_val rfl rfl rfl (v_assign rfl) ?_
      refine x_val rfl rfl rfl (v_assign rfl) ?_
      refine x_end ?_
      refine t_norm ?_
      refine w_ret ?_
      refine t_ret ?_
      refine b_ret ?_
      refine t_ret ?_
      refine b_ret ?_
      refine ret3 rfl rfl rfl rfl (fun w' hm => ⟨rowV R' (out ++ [n]).length, by rw [← hN, List.length_append]; rfl, hm.base (by simp), ?_⟩)
      rw [← hN]
      exact rowI_rd (e := 3) hR' (by simp) (fun d hd => by rcases List.mem_append.1 hd with h | h; (· exact hin d h); rw [List.mem_singleton.1 h]; unfold in64; omega) hm (fun p hp => by simp [hp]) (fun p hp => hm.newer (by simp) (by simp [hp]))
    · simp only [hb39, hb38, hb33, decide_eq_true_eq, decide_eq_false_iff_not, Bool.and_eq_true, Bool.or_eq_true, Bool.and_eq_false_iff, Bool.or_eq_false_iff, Bool.not_eq_true', Bool.not_eq_false', ne_eq, Decidable.not_not] at hc39
      have h8 : (valR s i).2.1 < s.size := by have := hc39.1; omega
      rw [if_neg (by rw [not_or, Decidable.not_not]; exact ⟨by omega, (at_iff h8).2 (by show _ = 47; have := hc39.2; omega)⟩)] at hN
      refine w_skip ?_
      refine t_norm ?_
      refine rg_text ?_
      refine x_val rfl rfl rfl (v_move rfl) ?_
      refine x_val rfl rfl rfl (v_addi (c := (((valR s i).2.1 + 1 : Nat) : Int)) rfl rfl (by omega) (by omega)) ?_
      refine x_val rfl rfl rfl (v_assign rfl) ?_
      refine x_end ?_
      refine b_norm ?_
      rw [List.append_nil]
      exact l_norm (x := (out, i, R)) (μ := fun q : List Int × Nat × RowS => 5 - q.1.length) (out ++ [n], (valR s i).2.1 + 1, R') ⟨by dsimp only; rw [List.length_append, List.length_singleton]; omega, fun d hd => by rcases List.mem_append.1 hd with h | h; (· exact hin d h); rw [List.mem_singleton.1 h]; unfold in64; omega, by dsimp only; omega, by dsimp only; rw [← hN, List.length_append, List.length_singleton, show 5 - (out.length + 1) = f by omega], hR'⟩ (by simp only [List.length_append, List.length_singleton]; omega) (by dsimp only; rw [List.length_append, List.length_singleton]; exact (by repeat (first | exact Sub.nil | refine Sub.cons rfl ?_))) (fun w1 h => h.less (List.sublist_cons_self _ _) (fun _ h => h))

end Go.Proofs.YtaniaihoodgmpaaGreatDoor

namespace Go.Proofs.YtaniaihoodgmpaaGreatDoor
open Go.RowKit Go.PK
set_option linter.unusedVariables false
set_option linter.unusedSimpArgs false
set_option maxHeartbeats 4000000 in
set_option maxRecDepth 100000 in
theorem c_rTake {w : World} {l2 : List (Nat × Obj)} {ro : List Snap} {R : RowS} {bs : Nat} {v1 v2 : Value} (p : Pat) (es : List Ent) (text : ByteArray) (day : Int) (hm : Mem w ((bs, Obj.cells ([Value.int .i64 p.first, Value.int .i64 p.days, v1, v2, rowV R es.length]).toArray 74 (0, 0)) :: (rowO 91 R ++ l2)) ro) (hp : ∀ w1 own1, Mem w1 own1 ro → patRd (fun _ => True) w1 p v1 v2) (hR : rowOK 4 R es.length (entsC es)) (hsrt : srt es) (hts : text.size ≤ 2000000) (hd : in64 day) (hlen : es.length ≤ 1000000) :
    Calls Tryz.prog 14 #[.pointer (some ⟨bs, 0, none⟩), .string text, .int .i64 day] w fun e w' => ∃ R', e = .returned (.int .i64 (takeQ p es text day).2) ∧ rowOK 4 R' (takeQ p es text day).1.length (entsC (takeQ p es text day).1) ∧ Mem w' ((bs, Obj.cells ([Value.int .i64 p.first, Value.int .i64 p.days, v1, v2, rowV R' (takeQ p es text day).1.length]).toArray 74 (0, 0)) :: (rowO 91 R' ++ l2)) ro := by
  refine enter_in hm (vs := [.pointer (some ⟨bs, 0, none⟩), .string text, .int .i64 day]) Tryz.func14 rfl Tryz.ntmps14 rfl ?_
  refine w_seq ?_
  refine rg_text ?_
  refine x_val rfl rfl rfl (v_assign rfl) ?_
  refine x_end ?_
  refine t_norm ?_
  refine w_seq ?_
  refine rg_text ?_
  refine x_val rfl rfl rfl (v_assign rfl) ?_
  refine x_end ?_
  refine t_norm ?_
  refine w_seq ?_
  refine rg_text ?_
  refine x_val rfl rfl rfl (v_move rfl) ?_
  refine x_val rfl rfl rfl (v_len_str Tryz.underlying9 rfl) ?_
  refine x_bool rfl rfl rfl (v_gtr rfl rfl) ?_
  intro b22 hb22
  refine x_val rfl rfl rfl (v_move rfl) ?_
  refine x_if [] rfl rfl rfl rfl rfl (fun hg => by obtain ⟨hg0, _⟩ := hg; subst hg0; (try simp only [List.cons_append, List.nil_append, gvl_nil, gvl_t, gvl_f]); exact v_move rfl) ?_
  refine x_if [] rfl rfl rfl rfl rfl (fun hg => by obtain ⟨hg0, _⟩ := hg; subst hg0; (try simp only [List.cons_append, List.nil_append, gvl_nil, gvl_t, gvl_f]); exact v_index (j := 0) Tryz.underlying9 rfl rfl (by have h9 := of_decide_eq_true hb22.symm; omega)) ?_
  refine x_ifb [] rfl rfl rfl rfl rfl (fun hg => by obtain ⟨hg0, _⟩ := hg; subst hg0; (try simp only [List.cons_append, List.nil_append, gvl_nil, gvl_t, gvl_f]); exact v_eql rfl rfl) ?_
  intro b26 hb26
  refine x_bool rfl rfl rfl (v_and rfl rfl) ?_
  intro b27 hb27
  obtain rfl : b27 = tkS text := by rw [tkS_eq, hb27, hb26, hb22]
  refine x_val rfl rfl rfl (v_assign rfl) ?_
  refine x_end ?_
  refine t_norm ?_
  refine w_seq_cut (σ := Unit) (fun q => True) (fun q => [(0, Value.pointer (some ⟨bs, 0, none⟩)), (1, Value.string text), (2, Value.int .i64 day), (6, Value.int .i64 0), (7, Value.int .i64 (rAt text : Nat)), (8, Value.bool (tkS text))]) (fun q => (bs, Obj.cells ([Value.int .i64 p.first, Value.int .i64 p.days, v1, v2, rowV R es.length]).toArray 74 (0, 0)) :: (rowO 91 R ++ l2)) (fun q => ro) ?_ ?_
  · refine w_seq ?_
    refine rg_text ?_
    refine x_val rfl rfl rfl (v_move rfl) ?_
    refine x_end ?_
    refine t_norm ?_
    refine w_cond rfl (fun hc28 => ?_) (fun hc28 => ?_)
    · have hs1 : tkS text = true := hc28
      refine rg_text ?_
      refine x_val rfl rfl rfl (v_assign rfl) ?_
      refine x_end ?_
      exact c_norm () trivial (by unfold rAt; rw [hs1]; exact (by repeat (first | exact Sub.nil | refine Sub.cons rfl ?_))) (fun _ h => h)
    · have hs1 : tkS text = false := hc28
      refine w_skip ?_
      exact c_norm () trivial (by unfold rAt; rw [hs1]; exact (by repeat (first | exact Sub.nil | refine Sub.cons rfl ?_))) (fun _ h => h)
  · rintro _ _
    refine w_seq ?_
    refine rg_text ?_
    refine x_val rfl rfl rfl (v_move rfl) ?_
    refine x_val rfl rfl rfl (v_move rfl) ?_
    have hat : rAt text ≤ 1 := by unfold rAt; split <;> omega
    refine x_call (R := fun v wa wb => ∃ v2, v = .tuple #[v2, .int .i64 ((rA text).2.1 : Nat), .bool (rA text).2.2] ∧ sliceRd tyI (fun b => wa.heap.size ≤ b) wb v2 (rA text).1) rfl rfl rfl Tryz.func45 (by kernel_rfl) rfl (fun w1 hw1 => (c_rNs text (rAt text) w1 hts (by omega)).mono fun e w2 ⟨v, h1, h2, h3⟩ => ⟨_, h1, h2, v, by rw [show rA text = nsR text 5 (rAt text) [] from rfl], by rw [show rA text = nsR text 5 (rAt text) [] from rfl]; exact h3⟩) ?_
    intro v32 wa32 wb32 hm32 hl32 hR32
    obtain ⟨v32_, rfl, hn32⟩ := hR32
    obtain ⟨A32, k32, rfl, _⟩ := id hn32
    refine x_val rfl rfl rfl (v_move rfl) ?_
    refine x_val rfl rfl rfl (v_extract rfl rfl) ?_
    refine x_val rfl rfl rfl (v_extract rfl rfl) ?_
    refine x_bool rfl rfl rfl (v_extract rfl rfl) ?_
    intro b35 hb35
    refine x_val rfl rfl rfl (v_assign rfl) ?_
    refine x_val rfl rfl rfl (v_assign rfl) ?_
    refine x_val rfl rfl rfl (v_assign rfl) ?_
    refine x_end ?_
    refine t_norm ?_
    refine w_seq ?_
    refine rg_text ?_
    refine x_val rfl rfl rfl (v_move rfl) ?_
    refine x_val rfl rfl rfl (v_assign rfl) ?_
    refine x_end ?_
    refine t_norm ?_
    refine w_seq ?_
    refine w_seq ?_
    refine rg_text ?_
    refine x_val rfl rfl rfl (v_move rfl) ?_
    refine x_val rfl rfl rfl (v_move rfl) ?_
    refine x_if [] rfl rfl rfl rfl rfl (fun hg => by obtain ⟨hg0, _⟩ := hg; subst hg0; (try simp only [List.cons_append, List.nil_append, gvl_nil, gvl_t, gvl_f]); exact v_move rfl) ?_
    refine x_if [] rfl rfl rfl rfl rfl (fun hg => by obtain ⟨hg0, _⟩ := hg; subst hg0; (try simp only [List.cons_append, List.nil_append, gvl_nil, gvl_t, gvl_f]); exact v_move rfl) ?_
    refine x_if [] rfl rfl rfl rfl rfl (fun hg => by obtain ⟨hg0, _⟩ := hg; subst hg0; (try simp only [List.cons_append, List.nil_append, gvl_nil, gvl_t, gvl_f]); exact v_len_str Tryz.underlying9 rfl) ?_
    refine x_ifb [] rfl rfl rfl rfl rfl (fun hg => by obtain ⟨hg0, _⟩ := hg; subst hg0; (try simp only [List.cons_append, List.nil_append, gvl_nil, gvl_t, gvl_f]); exact v_lss rfl rfl) ?_
    intro b42 hb42
    refine x_bool rfl rfl rfl (v_and rfl rfl) ?_
    intro b43 hb43
    refine x_val rfl rfl rfl (v_move rfl) ?_
    refine x_if [] rfl rfl rfl rfl rfl (fun hg => by obtain ⟨hg0, _⟩ := hg; subst hg0; (try simp only [List.cons_append, List.nil_append, gvl_nil, gvl_t, gvl_f]); exact v_move rfl) ?_
    refine x_if [] rfl rfl rfl rfl rfl (fun hg => by obtain ⟨hg0, _⟩ := hg; subst hg0; (try simp only [List.cons_append, List.nil_append, gvl_nil, gvl_t, gvl_f]); exact v_move rfl) ?_
    refine x_if [] rfl rfl rfl rfl rfl (fun hg => by obtain ⟨hg0, _⟩ := hg; subst hg0; (try simp only [List.cons_append, List.nil_append, gvl_nil, gvl_t, gvl_f]); exact v_index (j := (rA text).2.1) Tryz.underlying9 rfl rfl (by have h9 : _ = true ∧ _ := Bool.and_eq_true _ _ ▸ hb43.symm; have h8 := of_decide_eq_true (hb42.symm.trans h9.2); omega)) ?_
    refine x_ifb [] rfl rfl rfl rfl rfl (fun hg => by obtain ⟨hg0, _⟩ := hg; subst hg0; (try simp only [List.cons_append, List.nil_append, gvl_nil, gvl_t, gvl_f]); exact v_eql rfl rfl) ?_
    intro b48 hb48
    refine x_bool rfl rfl rfl (v_and rfl rfl) ?_
    intro b49 hb49
    refine x_end ?_
    refine t_norm ?_
    refine w_cond rfl (fun hc49 => ?_) (fun hc49 => ?_)
    · have hd9 : rDash text = true := by rw [rDash_eq, ← hc49, hb49, hb48, hb43, hb42, hb35]
      have hB : rB text = nsR text 5 ((rA text).2.1 + 1) [] := by unfold rB; rw [hd9]; rfl
      have hlt9 : (rA text).2.1 < text.size := by unfold rDash at hd9; rw [Bool.and_eq_true, Bool.and_eq_true, decide_eq_true_eq] at hd9; exact hd9.1.2
      refine rg_text ?_
      refine x_val rfl rfl rfl (v_move rfl) ?_
      refine x_val rfl rfl rfl (v_move rfl) ?_
      refine x_val rfl rfl rfl (v_addi (c := (((rA text).2.1 + 1 : Nat) : Int)) rfl rfl (by omega) (by omega)) ?_
      refine x_call (R := fun v wa wb => ∃ v2, v = .tuple #[v2, .int .i64 ((rB text).2.1 : Nat), .bool (rB text).2.2] ∧ sliceRd tyI (fun b => wa.heap.size ≤ b) wb v2 (rB text).1) rfl rfl rfl Tryz.func45 (by kernel_rfl) rfl (fun w1 hw1 => (c_rNs text ((rA text).2.1 + 1) w1 hts (by omega)).mono fun e w2 ⟨v, h1, h2, h3⟩ => ⟨_, h1, h2, v, by rw [hB], by rw [hB]; exact h3⟩) ?_
      intro v54 wa54 wb54 hm54 hl54 hR54
      obtain ⟨v54_, rfl, hn54⟩ := hR54
      obtain ⟨A54, k54, rfl, _⟩ := id hn54
      refine x_val rfl rfl rfl (v_move rfl) ?_
      refine x_val rfl rfl rfl (v_extract rfl rfl) ?_
      refine x_val rfl rfl rfl (v_extract rfl rfl) ?_
      refine x_bool rfl rfl rfl (v_extract rfl rfl) ?_
      intro b57 hb57
      refine x_val rfl rfl rfl (v_assign rfl) ?_
      refine x_val rfl rfl rfl (v_assign rfl) ?_
      refine x_val rfl rfl rfl (v_assign rfl) ?_
      refine x_end ?_
      refine t_norm ?_
      refine w_seq ?_
      refine w_seq ?_
      refine rg_text ?_
      refine x_val rfl rfl rfl (v_move rfl) ?_
      refine x_bool rfl rfl rfl (v_not rfl) ?_
      intro b59 hb59
      refine x_val rfl rfl rfl (v_move rfl) ?_
      refine x_if [] rfl rfl rfl rfl rfl (fun hg => by obtain ⟨hg0, _⟩ := hg; subst hg0; (try simp only [List.cons_append, List.nil_append, gvl_nil, gvl_t, gvl_f]); exact v_move rfl) ?_
      refine x_if [] rfl rfl rfl rfl rfl (fun hg => by obtain ⟨hg0, _⟩ := hg; subst hg0; (try simp only [List.cons_append, List.nil_append, gvl_nil, gvl_t, gvl_f]); exact v_move rfl) ?_
      refine x_if [] rfl rfl rfl rfl rfl (fun hg => by obtain ⟨hg0, _⟩ := hg; subst hg0; (try simp only [List.cons_append, List.nil_append, gvl_nil, gvl_t, gvl_f]); exact v_len_str Tryz.underlying9 rfl) ?_
      refine x_ifb [] rfl rfl rfl rfl rfl (fun hg => by obtain ⟨hg0, _⟩ := hg; subst hg0; (try simp only [List.cons_append, List.nil_append, gvl_nil, gvl_t, gvl_f]); exact v_neq rfl rfl) ?_
      intro b64 hb64
      refine x_bool rfl rfl rfl (v_or rfl rfl) ?_
      intro b65 hb65
      refine x_end ?_
      refine t_norm ?_
      refine w_cond rfl (fun hc65 => ?_) (fun hc65 => ?_)
      · have hro : rOK text = false := by rw [rOK_eq, ← hb57, ← hb59, ← hb64, ← hb65, hc65]; rfl
        have hT : takeQ p es text day = (es, 11) := rT_form hro
        refine w_seq ?_
        refine rg_text ?_
        refine x_val rfl rfl rfl (v_assign rfl) ?_
        refine x_end ?_
        refine t_norm ?_
        refine w_ret ?_
        refine t_ret ?_
        refine ret1 rfl rfl (fun w' hm => ⟨R, by rw [hT], by rw [hT]; exact hR, ?_⟩)
        rw [hT]
        exact hm.less (by repeat (first | exact List.Sublist.refl _ | apply List.Sublist.cons)) (fun s hs => by repeat (first | exact hs | apply List.mem_cons_of_mem))
      · have hro : rOK text = true := by rw [rOK_eq, ← hb57, ← hb59, ← hb64, ← hb65, hc65]; rfl
        refine w_skip ?_
        refine t_norm ?_
        refine w_seq ?_
        refine rg_text ?_
        refine x_val rfl rfl rfl (v_move rfl) ?_
        refine x_callb rfl rfl rfl Tryz.func46 (by kernel_rfl) rfl (fun w1 hw1 => c_risDay day w1) ?_
        intro b67 hb67
        refine x_val rfl rfl rfl (v_assign rfl) ?_
        refine x_end ?_
        refine t_norm ?_
        refine w_seq ?_
        refine w_seq ?_
        refine rg_text ?_
        refine x_val rfl rfl rfl (v_move rfl) ?_
        refine x_bool rfl rfl rfl (v_not rfl) ?_
        intro b69 hb69
        refine x_end ?_
        refine t_norm ?_
        refine w_cond rfl (fun hc69 => ?_) (fun hc69 => ?_)
        · have hT : takeQ p es text day = (es, 1) := rT_arg hro (fun h => by rw [hb69, hb67, decide_eq_true h] at hc69; cases hc69)
          refine w_seq ?_
          refine rg_text ?_
          refine x_val rfl rfl rfl (v_assign rfl) ?_
          refine x_end ?_
          refine t_norm ?_
          refine w_ret ?_
          refine t_ret ?_
          refine ret1 rfl rfl (fun w' hm => ⟨R, by rw [hT], by rw [hT]; exact hR, ?_⟩)
          rw [hT]
          exact hm.less (by repeat (first | exact List.Sublist.refl _ | apply List.Sublist.cons)) (fun s hs => by repeat (first | exact hs | apply List.mem_cons_of_mem))
        · have hod : okDay day := by rw [hb69, hb67] at hc69; simpa using hc69
          refine w_skip ?_
          refine t_norm ?_
          refine w_seq ?_
          refine rg_text ?_
          refine x_val rfl rfl rfl (v_move rfl) ?_
          refine x_val rfl rfl rfl (v_nilCheck rfl) ?_
          refine x_val rfl rfl rfl (v_fieldAddr (off' := 0) Tryz.underlying74 rfl sz26 (by decide) rfl rfl) ?_
          refine x_val rfl rfl rfl (v_loadN (vs := ([Value.int .i64 p.first, Value.int .i64 p.days, v1, v2, rowV R es.length]).take 4) Tryz.underlying26 rfl sz26 rfl (fun j hj => at_ownL (vs := [Value.int .i64 p.first, Value.int .i64 p.days, v1, v2, rowV R es.length]) (.head _) (by match j, hj with | 0, _ | 1, _ | 2, _ | 3, _ => rfl))) ?_
          refine x_val rfl rfl rfl (v_move rfl) ?_
          refine x_callv (v := Value.tuple #[.int .i64 ((numP p (rA text).1).getD 0), .bool (numP p (rA text).1).isSome]) rfl rfl rfl Tryz.func47 (by kernel_rfl) rfl (fun w1 hw1 => c_rNumber p (rA text).1 w1 (hp w1 _ (hw1.less (List.Sublist.refl _) (fun s hs => by repeat (first | exact hs | apply List.mem_cons_of_mem)))) (keep_new hn32 hw1 (by repeat (first | exact List.Mem.head _ | apply List.Mem.tail)) hm32)) ?_
          refine x_val rfl rfl rfl (v_move rfl) ?_
          refine x_val rfl rfl rfl (v_extract rfl rfl) ?_
          refine x_bool rfl rfl rfl (v_extract rfl rfl) ?_
          intro b78 hb78
          refine x_val rfl rfl rfl (v_assign rfl) ?_
          refine x_val rfl rfl rfl (v_assign rfl) ?_
          refine x_end ?_
          refine t_norm ?_
          refine w_seq ?_
          refine rg_text ?_
          refine x_val rfl rfl rfl (v_move rfl) ?_
          refine x_val rfl rfl rfl (v_nilCheck rfl) ?_
          refine x_val rfl rfl rfl (v_fieldAddr (off' := 0) Tryz.underlying74 rfl sz26 (by decide) rfl rfl) ?_
          refine x_val rfl rfl rfl (v_loadN (vs := ([Value.int .i64 p.first, Value.int .i64 p.days, v1, v2, rowV R es.length]).take 4) Tryz.underlying26 rfl sz26 rfl (fun j hj => at_ownL (vs := [Value.int .i64 p.first, Value.int .i64 p.days, v1, v2, rowV R es.length]) (.head _) (by match j, hj with | 0, _ | 1, _ | 2, _ | 3, _ => rfl))) ?_
          refine x_val rfl rfl rfl (v_move rfl) ?_
          refine x_callv (v := Value.tuple #[.int .i64 ((numP p (rB text).1).getD 0), .bool (numP p (rB text).1).isSome]) rfl rfl rfl Tryz.func47 (by kernel_rfl) rfl (fun w1 hw1 => c_rNumber p (rB text).1 w1 (hp w1 _ (hw1.less (List.Sublist.refl _) (fun s hs => by repeat (first | exact hs | apply List.mem_cons_of_mem)))) (keep_new hn54 hw1 (by repeat (first | exact List.Mem.head _ | apply List.Mem.tail)) hm54)) ?_
          refine x_val rfl rfl rfl (v_move rfl) ?_
          refine x_val rfl rfl rfl (v_extract rfl rfl) ?_
          refine x_bool rfl rfl rfl (v_extract rfl rfl) ?_
          intro b87 hb87
          refine x_val rfl rfl rfl (v_assign rfl) ?_
          refine x_val rfl rfl rfl (v_assign rfl) ?_
          refine x_end ?_
          refine t_norm ?_
          refine w_seq_cut (σ := Ent) (fun x => (takeQ p es text day = if meets es x = true then (es, 22) else (insE es x, 0)) ∧ entOK x ∧ x.day = day ∧ x.sk = tkS text) (fun x => [(0, Value.pointer (some ⟨bs, 0, none⟩)), (2, Value.int .i64 x.day), (8, Value.bool x.sk), (13, Value.int .i64 x.fr), (15, Value.int .i64 x.to)]) (fun x => (bs, Obj.cells ([Value.int .i64 p.first, Value.int .i64 p.days, v1, v2, rowV R es.length]).toArray 74 (0, 0)) :: (rowO 91 R ++ l2)) (fun x => ro) ?_ ?_
          · refine w_seq ?_
            refine rg_text ?_
            refine x_val rfl rfl rfl (v_move rfl) ?_
            refine x_bool rfl rfl rfl (v_not rfl) ?_
            intro b89 hb89
            refine x_val rfl rfl rfl (v_move rfl) ?_
            refine x_if [] rfl rfl rfl rfl rfl (fun hg => by obtain ⟨hg0, _⟩ := hg; subst hg0; (try simp only [List.cons_append, List.nil_append, gvl_nil, gvl_t, gvl_f]); exact v_move rfl) ?_
            refine x_ifb [] rfl rfl rfl rfl rfl (fun hg => by obtain ⟨hg0, _⟩ := hg; subst hg0; (try simp only [List.cons_append, List.nil_append, gvl_nil, gvl_t, gvl_f]); exact v_not rfl) ?_
            intro b92 hb92
            refine x_bool rfl rfl rfl (v_or rfl rfl) ?_
            intro b93 hb93
            refine x_val rfl rfl rfl (v_move rfl) ?_
            refine x_if [] rfl rfl rfl rfl rfl (fun hg => by obtain ⟨hg0, _⟩ := hg; subst hg0; (try simp only [List.cons_append, List.nil_append, gvl_nil, gvl_t, gvl_f]); exact v_move rfl) ?_
            refine x_if [] rfl rfl rfl rfl rfl (fun hg => by obtain ⟨hg0, _⟩ := hg; subst hg0; (try simp only [List.cons_append, List.nil_append, gvl_nil, gvl_t, gvl_f]); exact v_move rfl) ?_
            refine x_ifb [] rfl rfl rfl rfl rfl (fun hg => by obtain ⟨hg0, _⟩ := hg; subst hg0; (try simp only [List.cons_append, List.nil_append, gvl_nil, gvl_t, gvl_f]); exact v_lss rfl rfl) ?_
            intro b97 hb97
            refine x_bool rfl rfl rfl (v_or rfl rfl) ?_
            intro b98 hb98
            refine x_val rfl rfl rfl (v_move rfl) ?_
            refine x_if [] rfl rfl rfl rfl rfl (fun hg => by obtain ⟨hg0, _⟩ := hg; subst hg0; (try simp only [List.cons_append, List.nil_append, gvl_nil, gvl_t, gvl_f]); exact v_move rfl) ?_
            refine x_if [] rfl rfl rfl rfl rfl (fun hg => by obtain ⟨hg0, _⟩ := hg; subst hg0; (try simp only [List.cons_append, List.nil_append, gvl_nil, gvl_t, gvl_f]); exact v_move rfl) ?_
            have r1 := numP_rng p (rA text).1
            have r2 := numP_rng p (rB text).1
            refine x_if [] rfl rfl rfl rfl rfl (fun hg => by obtain ⟨hg0, _⟩ := hg; subst hg0; (try simp only [List.cons_append, List.nil_append, gvl_nil, gvl_t, gvl_f]); exact v_subi rfl rfl rfl (by first | omega | (dsimp only; omega))) ?_
            refine x_if [] rfl rfl rfl rfl rfl (fun hg => by obtain ⟨hg0, _⟩ := hg; subst hg0; (try simp only [List.cons_append, List.nil_append, gvl_nil, gvl_t, gvl_f]); exact v_addi rfl rfl rfl (by first | omega | (dsimp only; omega))) ?_
            refine x_ifb [] rfl rfl rfl rfl rfl (fun hg => by obtain ⟨hg0, _⟩ := hg; subst hg0; (try simp only [List.cons_append, List.nil_append, gvl_nil, gvl_t, gvl_f]); exact v_gtr rfl rfl) ?_
            intro b104 hb104
            refine x_bool rfl rfl rfl (v_or rfl rfl) ?_
            intro b105 hb105
            refine x_end ?_
            refine t_norm ?_
            refine w_cond rfl (fun hc105 => ?_) (fun hc105 => ?_)
            · have hT : takeQ p es text day = (es, 32) := rT_none hro hod (by
                have hc := hc105
                have r1 := numP_rng p (rA text).1
                have r2 := numP_rng p (rB text).1
                simp only [hb105, hb104, hb98, hb97, hb93, hb92, hb89, hb87, hb78, Bool.or_eq_true, Bool.not_eq_true', decide_eq_true_eq] at hc
                rcases hc with ((hc | hc) | hc) | hc
                · exact .inl hc
                · exact .inr (.inl hc)
                · exact .inr (.inr (.inl hc))
                · exact .inr (.inr (.inr (by omega))))
              refine w_seq ?_
              refine rg_text ?_
              refine x_val rfl rfl rfl (v_assign rfl) ?_
              refine x_end ?_
              refine t_norm ?_
              refine w_ret ?_
              refine t_ret ?_
              refine ret1 rfl rfl (fun w' hm => ⟨R, by rw [hT], by rw [hT]; exact hR, ?_⟩)
              rw [hT]
              exact hm.less (by repeat (first | exact List.Sublist.refl _ | apply List.Sublist.cons)) (fun s hs => by repeat (first | exact hs | apply List.mem_cons_of_mem))
            · have hc := hc105
              simp only [hb105, hb104, hb98, hb97, hb93, hb92, hb89, hb87, hb78, Bool.or_eq_false_iff, Bool.not_eq_false', decide_eq_false_iff_not] at hc
              obtain ⟨⟨⟨h1, h2⟩, h3⟩, h4⟩ := hc
              have h9 := rT_some (p := p) (es := es) (text := text) hro hod h1 h2 h3 (by omega)
              refine w_skip ?_
              exact c_norm (⟨((numP p (rA text).1).getD 0), ((numP p (rB text).1).getD 0), tkS text, day⟩ : Ent) ⟨h9.2, h9.1, rfl, rfl⟩ (by repeat (first | exact Sub.nil | refine Sub.cons rfl ?_)) (fun w1 h => h.less (by repeat (first | exact List.Sublist.refl _ | apply List.Sublist.cons)) (fun s hs => by repeat (first | exact hs | apply List.mem_cons_of_mem)))
          · rintro x ⟨hTx, hx, hxd, hxs⟩
            refine w_seq ?_
            refine rg_text ?_
            refine x_val rfl rfl rfl (v_assign rfl) ?_
            refine x_end ?_
            refine t_norm ?_
            refine w_seq ?_
            refine w_seq ?_
            refine rg_text ?_
            refine x_val rfl rfl rfl (v_assign rfl) ?_
            refine x_end ?_
            refine t_norm ?_
            refine w_block ?_
            obtain ⟨e1, e2, e3, e4, e5⟩ := id hx
            have e6 := e5
            unfold okDay at e6
            refine w_loop (σ := Nat) (fun k => k ≤ es.length ∧ ∀ j (h : j < es.length), j < k → ¬(x.fr ≤ es[j].to ∧ es[j].fr ≤ x.to)) (fun k => [(0, .pointer (some ⟨bs, 0, none⟩)), (2, Value.int .i64 x.day), (8, Value.bool x.sk), (13, Value.int .i64 x.fr), (15, Value.int .i64 x.to), (17, Value.int .i64 (plc es x.fr k : Nat)), (18, Value.int .i64 (k : Nat))]) (fun k => (bs, Obj.cells ([Value.int .i64 p.first, Value.int .i64 p.days, v1, v2, rowV R es.length]).toArray 74 (0, 0)) :: (rowO 91 R ++ l2)) (fun k => ro) (fun k => es.length - k) (0) (⟨Nat.zero_le _, by intros; omega⟩) (l_start (by repeat (first | exact Sub.nil | refine Sub.cons rfl ?_)) (fun _ h => h)) ?_
            rintro k ⟨hk, hno⟩
            refine w_state ([(0, .pointer (some ⟨bs, 0, none⟩)), (2, Value.int .i64 x.day), (8, Value.bool x.sk), (13, Value.int .i64 x.fr), (15, Value.int .i64 x.to), (17, Value.int .i64 (plc es x.fr k : Nat)), (18, Value.int .i64 (k : Nat))]) ((bs, Obj.cells ([Value.int .i64 p.first, Value.int .i64 p.days, v1, v2, rowV R es.length]).toArray 74 (0, 0)) :: (rowO 91 R ++ l2)) (ro) ?_
            refine w_seq ?_
            refine w_seq ?_
            refine rg_text ?_
            refine x_val rfl rfl rfl (v_move rfl) ?_
            refine x_val rfl rfl rfl (v_move rfl) ?_
            refine x_val rfl rfl rfl (v_nilCheck rfl) ?_
            refine x_val rfl rfl rfl (v_fieldAddr (off' := 4) Tryz.underlying74 rfl sz72 (by decide) rfl rfl) ?_
            refine x_val rfl rfl rfl (v_load Tryz.underlying72 rfl rfl (at_ownL (vs := [Value.int .i64 p.first, Value.int .i64 p.days, v1, v2, rowV R es.length]) (by repeat (first | exact List.Mem.head _ | apply List.Mem.tail)) rfl)) ?_
            refine x_val rfl rfl rfl (v_len_slice Tryz.underlying72 rfl) ?_
            refine x_bool rfl rfl rfl (v_lss rfl rfl) ?_
            intro b112 hb112
            refine x_end ?_
            refine t_norm ?_
            refine w_cond rfl (fun hc112 => ?_) (fun hc112 => ?_)
            · simp only [hb112, decide_eq_true_eq, decide_eq_false_iff_not, Bool.and_eq_true, Bool.or_eq_true, Bool.and_eq_false_iff, Bool.or_eq_false_iff, Bool.not_eq_true', Bool.not_eq_false', ne_eq, Decidable.not_not] at hc112
              have hkl : k < es.length := by omega
              obtain ⟨bg, csg, cpg, hge, _⟩ := hR.cell (j := 0) (by rw [entsC_len]; omega)
              refine w_skip ?_
              refine t_norm ?_
              refine w_seq ?_
              refine w_block ?_
              refine w_seq ?_
              refine rg_text ?_
              refine x_val rfl rfl rfl (v_move rfl) ?_
              refine x_val rfl rfl rfl (v_nilCheck rfl) ?_
              refine x_val rfl rfl rfl (v_fieldAddr (off' := 4) Tryz.underlying74 rfl sz72 (by decide) rfl rfl) ?_
              refine x_val rfl rfl rfl (v_load Tryz.underlying72 rfl rfl (at_ownL (vs := [Value.int .i64 p.first, Value.int .i64 p.days, v1, v2, rowV R es.length]) (by repeat (first | exact List.Mem.head _ | apply List.Mem.tail)) rfl)) ?_
              refine x_val rfl rfl rfl (v_move rfl) ?_
              refine x_val rfl rfl rfl (v_indexAddr Tryz.underlying72 sz91 (congrArg (fun q => some (rowV q es.length)) hge) rfl (by first | omega | (dsimp only; omega)) rfl) ?_
              refine x_val rfl rfl rfl (v_fieldAddr Tryz.underlying91 rfl sz3 (by decide) rfl rfl) ?_
              refine x_val rfl rfl rfl (v_load Tryz.underlying3 rfl rfl (at_ownL (vs := csg) (show (bg, Obj.cells csg.toArray 91 (0, 0)) ∈ _ by rw [hge]; simp [rowO]) (rowE_at (j := 1) (hge ▸ hR) rfl hkl (show 1 < 4 by decide)))) ?_
              refine x_val rfl rfl rfl (v_move rfl) ?_
              refine x_bool rfl rfl rfl (v_lss rfl rfl) ?_
              intro b124 hb124
              refine x_end ?_
              refine t_norm ?_
              refine w_cond rfl (fun hc124 => ?_) (fun hc124 => ?_)
              · simp only [hb124, decide_eq_true_eq, decide_eq_false_iff_not, Bool.and_eq_true, Bool.or_eq_true, Bool.and_eq_false_iff, Bool.or_eq_false_iff, Bool.not_eq_true', Bool.not_eq_false', ne_eq, Decidable.not_not] at hc124
                refine rg_text ?_
                refine x_val rfl rfl rfl (v_move rfl) ?_
                refine x_val rfl rfl rfl (v_addi rfl rfl rfl (by first | omega | (dsimp only; omega))) ?_
                refine x_val rfl rfl rfl (v_assign rfl) ?_
                refine x_end ?_
                refine b_norm ?_
                refine t_norm ?_
                refine rg_text ?_
                refine x_val rfl rfl rfl (v_move rfl) ?_
                refine x_val rfl rfl rfl (v_addi rfl rfl rfl (by first | omega | (dsimp only; omega))) ?_
                refine x_val rfl rfl rfl (v_assign rfl) ?_
                refine x_end ?_
                exact l_norm (x := k) (μ := fun q : Nat => es.length - q) (k + 1) ⟨hkl, fun j hj hjk => by rcases Nat.lt_succ_iff_lt_or_eq.1 hjk with h3 | rfl; (· exact hno j hj h3); omega⟩ (by omega) (by (try dsimp only); rw [plc_yes hkl (by omega)]; exact (by repeat (first | exact Sub.nil | refine Sub.cons rfl ?_))) (fun _ h => h)
              · simp only [hb124, decide_eq_true_eq, decide_eq_false_iff_not, Bool.and_eq_true, Bool.or_eq_true, Bool.and_eq_false_iff, Bool.or_eq_false_iff, Bool.not_eq_true', Bool.not_eq_false', ne_eq, Decidable.not_not] at hc124
                refine w_seq ?_
                refine rg_text ?_
                refine x_val rfl rfl rfl (v_move rfl) ?_
                refine x_val rfl rfl rfl (v_nilCheck rfl) ?_
                refine x_val rfl rfl rfl (v_fieldAddr (off' := 4) Tryz.underlying74 rfl sz72 (by decide) rfl rfl) ?_
                refine x_val rfl rfl rfl (v_load Tryz.underlying72 rfl rfl (at_ownL (vs := [Value.int .i64 p.first, Value.int .i64 p.days, v1, v2, rowV R es.length]) (by repeat (first | exact List.Mem.head _ | apply List.Mem.tail)) rfl)) ?_
                refine x_val rfl rfl rfl (v_move rfl) ?_
                refine x_val rfl rfl rfl (v_indexAddr Tryz.underlying72 sz91 (congrArg (fun q => some (rowV q es.length)) hge) rfl (by first | omega | (dsimp only; omega)) rfl) ?_
                refine x_val rfl rfl rfl (v_fieldAddr Tryz.underlying91 rfl sz3 (by decide) rfl rfl) ?_
                refine x_val rfl rfl rfl (v_load Tryz.underlying3 rfl rfl (at_ownL (vs := csg) (show (bg, Obj.cells csg.toArray 91 (0, 0)) ∈ _ by rw [hge]; simp [rowO]) (rowE_at (j := 0) (hge ▸ hR) rfl hkl (show 0 < 4 by decide)))) ?_
                refine x_val rfl rfl rfl (v_move rfl) ?_
                refine x_bool rfl rfl rfl (v_leq rfl rfl) ?_
                intro b136 hb136
                refine x_end ?_
                refine t_norm ?_
                refine w_cond rfl (fun hc136 => ?_) (fun hc136 => ?_)
                · simp only [hb136, decide_eq_true_eq, decide_eq_false_iff_not, Bool.and_eq_true, Bool.or_eq_true, Bool.and_eq_false_iff, Bool.or_eq_false_iff, Bool.not_eq_true', Bool.not_eq_false', ne_eq, Decidable.not_not] at hc136
                  have hT : takeQ p es text day = (es, 22) := by rw [hTx, if_pos (meets_yes ⟨es[k], List.getElem_mem hkl, by omega, by omega⟩)]
                  refine w_seq ?_
                  refine rg_text ?_
                  refine x_val rfl rfl rfl (v_assign rfl) ?_
                  refine x_end ?_
                  refine t_norm ?_
                  refine w_ret ?_
                  refine b_ret ?_
                  refine t_ret ?_
                  refine t_ret ?_
                  refine b_ret ?_
                  refine t_ret ?_
                  refine ret1 rfl rfl (fun w' hm => ⟨R, by rw [hT], by rw [hT]; exact hR, ?_⟩)
                  rw [hT]
                  exact hm.less (by repeat (first | exact List.Sublist.refl _ | apply List.Sublist.cons)) (fun s hs => by repeat (first | exact hs | apply List.mem_cons_of_mem))
                · simp only [hb136, decide_eq_true_eq, decide_eq_false_iff_not, Bool.and_eq_true, Bool.or_eq_true, Bool.and_eq_false_iff, Bool.or_eq_false_iff, Bool.not_eq_true', Bool.not_eq_false', ne_eq, Decidable.not_not] at hc136
                  refine w_skip ?_
                  refine b_norm ?_
                  refine t_norm ?_
                  refine rg_text ?_
                  refine x_val rfl rfl rfl (v_move rfl) ?_
                  refine x_val rfl rfl rfl (v_addi rfl rfl rfl (by first | omega | (dsimp only; omega))) ?_
                  refine x_val rfl rfl rfl (v_assign rfl) ?_
                  refine x_end ?_
                  exact l_norm (x := k) (μ := fun q : Nat => es.length - q) (k + 1) ⟨hkl, fun j hj hjk => by rcases Nat.lt_succ_iff_lt_or_eq.1 hjk with h3 | rfl; (· exact hno j hj h3); omega⟩ (by omega) (by (try dsimp only); rw [plc_no hkl (by omega)]; exact (by repeat (first | exact Sub.nil | refine Sub.cons rfl ?_))) (fun _ h => h)
            · simp only [hb112, decide_eq_true_eq, decide_eq_false_iff_not, Bool.and_eq_true, Bool.or_eq_true, Bool.and_eq_false_iff, Bool.or_eq_false_iff, Bool.not_eq_true', Bool.not_eq_false', ne_eq, Decidable.not_not] at hc112
              obtain rfl : k = es.length := by omega
              have hmt : meets es x = false := meets_iff.2 (fun j hj => hno j hj hj)
              have hT : takeQ p es text day = (insE es x, 0) := by rw [hTx, hmt]; rfl
              obtain ⟨m, hm9⟩ : ∃ m, plc es x.fr es.length = m := ⟨_, rfl⟩
              have hml : m ≤ es.length := hm9 ▸ plc_le es x.fr _
              have hins := plc_ins hsrt hx hmt
              rw [hm9] at hins
              have hcap := hR.cap
              refine w_exit ?_
              refine t_exit ?_
              refine t_exit ?_
              refine b_hit ?_
              refine t_norm ?_
              refine w_seq ?_
              refine rg_text ?_
              refine x_val rfl rfl rfl (v_assign rfl) ?_
              refine x_end ?_
              refine t_norm ?_
              refine w_seq ?_
              refine rg_text ?_
              refine x_val rfl rfl rfl (v_move rfl) ?_
              refine x_val rfl rfl rfl (v_move rfl) ?_
              refine x_val rfl rfl rfl (v_nilCheck rfl) ?_
              refine x_val rfl rfl rfl (v_fieldAddr (off' := 4) Tryz.underlying74 rfl sz72 (by decide) rfl rfl) ?_
              refine x_val rfl rfl rfl (v_load Tryz.underlying72 rfl rfl (at_ownL (vs := [Value.int .i64 p.first, Value.int .i64 p.days, v1, v2, rowV R es.length]) (by repeat (first | exact List.Mem.head _ | apply List.Mem.tail)) rfl)) ?_
              refine x_val (v := Value.int .i64 (m : Nat)) rfl rfl rfl (by rw [← hm9]; exact v_move rfl) ?_
              refine x_val rfl rfl rfl (v_scut_to (j := m) Tryz.underlying72 sz91 rfl rfl (by omega)) ?_
              refine x_append_any (e := 91) (ao := rowA R) (c2 := rowC R) (m := m) (news := entsC (es.take m)) ((bs, Obj.cells ([Value.int .i64 p.first, Value.int .i64 p.days, v1, v2, rowV R es.length]).toArray 74 (0, 0)) :: (rowO 91 R ++ l2)) (l2 := []) none (len := 0) (xs := []) rfl rfl rfl rfl (by simp [rowO]) rowOK_nil Tryz.underlying72 ap91 rfl (by rw [entsC_len, List.length_take, Nat.min_eq_left hml]) (fun h => by have := row_none hR h; omega) (fun w1 hw1 a ha j u hu => row_head (e := 91) hR hw1 (fun q hq => List.mem_cons_of_mem _ (List.mem_append_left _ hq)) ha hu) (entsC_one _) (by simp only [maxLen]; omega) (by omega) ?_
              intro R1 hR1
              rw [List.nil_append] at hR1
              rw [show 0 + m = m from Nat.zero_add m] at hR1 ⊢
              refine x_val rfl rfl rfl (v_assign rfl) ?_
              refine x_end ?_
              refine t_norm ?_
              refine w_seq ?_
              refine rg_text ?_
              refine x_val rfl rfl rfl (v_move rfl) ?_
              refine x_val rfl rfl rfl (v_move rfl) ?_
              refine x_val rfl rfl rfl (v_move rfl) ?_
              refine x_val rfl rfl rfl (v_move rfl) ?_
              refine x_val rfl rfl rfl (v_move rfl) ?_
              refine x_val (v := Value.agg (entC x).toArray) rfl rfl rfl (v_buildL (places := [(0, 1), (1, 1), (2, 1), (3, 1)]) Tryz.underlying91 zr91 (by kernel_rfl) rfl rfl) ?_
              refine x_buildSliceL (cs := entC x) rfl rfl rfl Tryz.underlying72 sz91 zr91 rfl rfl rfl ?_
              intro p151
              refine x_append (e := 91) ((p151, Obj.cells (entC x).toArray 91 (0, 0)) :: ((bs, Obj.cells ([Value.int .i64 p.first, Value.int .i64 p.days, v1, v2, rowV R es.length]).toArray 74 (0, 0)) :: (rowO 91 R ++ l2))) (l2 := []) R1 (len := m) (xs := entsC (es.take m)) rfl rfl rfl rfl (by simp [List.append_assoc]) hR1 Tryz.underlying72 ap91 rfl rfl (m := 1) (news := entC x) (fun j hj => at_ownL (vs := entC x) (.head _) (by rw [Nat.zero_add]; exact List.getElem?_eq_getElem hj)) rfl (by simp only [maxLen]; omega) (by omega) ?_
              intro R2 hR2
              refine x_val rfl rfl rfl (v_assign rfl) ?_
              refine x_end ?_
              refine t_norm ?_
              refine w_seq ?_
              refine rg_text ?_
              refine x_val rfl rfl rfl (v_move rfl) ?_
              refine x_val rfl rfl rfl (v_move rfl) ?_
              refine x_val rfl rfl rfl (v_move rfl) ?_
              refine x_val rfl rfl rfl (v_nilCheck rfl) ?_
              refine x_val rfl rfl rfl (v_fieldAddr (off' := 4) Tryz.underlying74 rfl sz72 (by decide) rfl rfl) ?_
              refine x_val rfl rfl rfl (v_load Tryz.underlying72 rfl rfl (at_ownL (vs := [Value.int .i64 p.first, Value.int .i64 p.days, v1, v2, rowV R es.length]) (by repeat (first | exact List.Mem.head _ | apply List.Mem.tail)) rfl)) ?_
              refine x_val (v := Value.int .i64 (m : Nat)) rfl rfl rfl (by rw [← hm9]; exact v_move rfl) ?_
              refine x_val rfl rfl rfl (v_scut_from (i := m) Tryz.underlying72 sz91 rfl rfl hml (by omega)) ?_
              refine x_append_any (e := 91) (ao := if rowC R = m then rowA R else (rowA R).map (fun a => a.add (m * 4))) (m := es.length - m) (news := entsC (es.drop m)) ((p151, Obj.cells (entC x).toArray 91 (0, 0)) :: ((bs, Obj.cells ([Value.int .i64 p.first, Value.int .i64 p.days, v1, v2, rowV R es.length]).toArray 74 (0, 0)) :: (rowO 91 R ++ l2))) (l2 := []) R2 (len := m + 1) (xs := entsC (es.take m) ++ entC x) rfl rfl rfl rfl (by simp [List.append_assoc]) hR2 Tryz.underlying72 ap91 rfl (by rw [entsC_len, List.length_drop]) (fun h => by split at h; (· omega); rw [Option.map_eq_none_iff] at h; have := row_none hR h; omega) (fun w1 hw1 a ha j u hu => row_tail (e := 91) hR hw1 (fun q hq => by simp [hq]) hml ha hu) (entsC_one _) (by simp only [maxLen]; omega) (by omega) ?_
              intro R3 hR3
              have e9 : m + 1 + (es.length - m) = es.length + 1 := by omega
              rw [e9] at hR3 ⊢
              refine x_val rfl rfl rfl (v_nilCheck rfl) ?_
              refine x_val rfl rfl rfl (v_fieldAddr (off' := 4) Tryz.underlying74 rfl sz72 (by decide) rfl rfl) ?_
              refine x_store (cs := [Value.int .i64 p.first, Value.int .i64 p.days, v1, v2, rowV R es.length]) (off := 4) (e := 74) (l2 := rowO 91 R ++ l2 ++ rowO 91 R3) [(p151, Obj.cells (entC x).toArray 91 (0, 0))] rfl rfl rfl (by simp [List.append_assoc]) sz72 rfl (by show 5 ≤ 5; decide) ?_
              refine x_end ?_
              refine t_norm ?_
              refine w_seq ?_
              refine rg_text ?_
              refine x_val rfl rfl rfl (v_assign rfl) ?_
              refine x_end ?_
              refine t_norm ?_
              refine w_ret ?_
              have h8 : rowOK 4 R3 (insE es x).length (entsC (insE es x)) := by rw [insE_len, ← hins, entsC_app]; have e8 : entsC (x :: es.drop m) = entC x ++ entsC (es.drop m) := rfl; rw [e8, ← List.append_assoc]; exact hR3
              refine ret1 rfl rfl (fun w' hm => ⟨R3, by rw [hT], by rw [hT]; exact h8, ?_⟩)
              rw [hT]
              show Mem w' ((bs, Obj.cells ([Value.int .i64 p.first, Value.int .i64 p.days, v1, v2, rowV R3 (insE es x).length]).toArray 74 (0, 0)) :: (rowO 91 R3 ++ l2)) ro
              rw [insE_len]
              have hm1 := hm.less (own' := (bs, Obj.cells ([Value.int .i64 p.first, Value.int .i64 p.days, v1, v2, rowV R3 (es.length + 1)]).toArray 74 (0, 0)) :: (l2 ++ rowO 91 R3)) (by
                show List.Sublist _ (_ :: _ :: _)
                refine List.Sublist.cons _ (List.Sublist.cons_cons _ ?_)
                exact (List.sublist_append_right _ _).append (List.Sublist.refl _)) (fun _ h => h)
              exact hm1.perm (List.Perm.cons _ List.perm_append_comm)
    · have hd9 : rDash text = false := by rw [rDash_eq, ← hc49, hb49, hb48, hb43, hb42, hb35]
      have hB : rB text = rA text := by unfold rB; rw [hd9]; rfl
      refine w_skip ?_
      refine t_norm ?_
      refine w_seq ?_
      refine w_seq ?_
      refine rg_text ?_
      refine x_val rfl rfl rfl (v_move rfl) ?_
      refine x_bool rfl rfl rfl (v_not rfl) ?_
      intro b59 hb59
      refine x_val rfl rfl rfl (v_move rfl) ?_
      refine x_if [] rfl rfl rfl rfl rfl (fun hg => by obtain ⟨hg0, _⟩ := hg; subst hg0; (try simp only [List.cons_append, List.nil_append, gvl_nil, gvl_t, gvl_f]); exact v_move rfl) ?_
      refine x_if [] rfl rfl rfl rfl rfl (fun hg => by obtain ⟨hg0, _⟩ := hg; subst hg0; (try simp only [List.cons_append, List.nil_append, gvl_nil, gvl_t, gvl_f]); exact v_move rfl) ?_
      refine x_if [] rfl rfl rfl rfl rfl (fun hg => by obtain ⟨hg0, _⟩ := hg; subst hg0; (try simp only [List.cons_append, List.nil_append, gvl_nil, gvl_t, gvl_f]); exact v_len_str Tryz.underlying9 rfl) ?_
      refine x_ifb [] rfl rfl rfl rfl rfl (fun hg => by obtain ⟨hg0, _⟩ := hg; subst hg0; (try simp only [List.cons_append, List.nil_append, gvl_nil, gvl_t, gvl_f]); exact v_neq rfl rfl) ?_
      intro b64 hb64
      refine x_bool rfl rfl rfl (v_or rfl rfl) ?_
      intro b65 hb65
      refine x_end ?_
      refine t_norm ?_
      refine w_cond rfl (fun hc65 => ?_) (fun hc65 => ?_)
      · have hro : rOK text = false := by rw [rOK_eq, hB, ← hb35, ← hb59, ← hb64, ← hb65, hc65]; rfl
        have hT : takeQ p es text day = (es, 11) := rT_form hro
        refine w_seq ?_
        refine rg_text ?_
        refine x_val rfl rfl rfl (v_assign rfl) ?_
        refine x_end ?_
        refine t_norm ?_
        refine w_ret ?_
        refine t_ret ?_
        refine ret1 rfl rfl (fun w' hm => ⟨R, by rw [hT], by rw [hT]; exact hR, ?_⟩)
        rw [hT]
        exact hm.less (by repeat (first | exact List.Sublist.refl _ | apply List.Sublist.cons)) (fun s hs => by repeat (first | exact hs | apply List.mem_cons_of_mem))
      · have hro : rOK text = true := by rw [rOK_eq, hB, ← hb35, ← hb59, ← hb64, ← hb65, hc65]; rfl
        refine w_skip ?_
        refine t_norm ?_
        refine w_seq ?_
        refine rg_text ?_
        refine x_val rfl rfl rfl (v_move rfl) ?_
        refine x_callb rfl rfl rfl Tryz.func46 (by kernel_rfl) rfl (fun w1 hw1 => c_risDay day w1) ?_
        intro b67 hb67
        refine x_val rfl rfl rfl (v_assign rfl) ?_
        refine x_end ?_
        refine t_norm ?_
        refine w_seq ?_
        refine w_seq ?_
        refine rg_text ?_
        refine x_val rfl rfl rfl (v_move rfl) ?_
        refine x_bool rfl rfl rfl (v_not rfl) ?_
        intro b69 hb69
        refine x_end ?_
        refine t_norm ?_
        refine w_cond rfl (fun hc69 => ?_) (fun hc69 => ?_)
        · have hT : takeQ p es text day = (es, 1) := rT_arg hro (fun h => by rw [hb69, hb67, decide_eq_true h] at hc69; cases hc69)
          refine w_seq ?_
          refine rg_text ?_
          refine x_val rfl rfl rfl (v_assign rfl) ?_
          refine x_end ?_
          refine t_norm ?_
          refine w_ret ?_
          refine t_ret ?_
          refine ret1 rfl rfl (fun w' hm => ⟨R, by rw [hT], by rw [hT]; exact hR, ?_⟩)
          rw [hT]
          exact hm.less (by repeat (first | exact List.Sublist.refl _ | apply List.Sublist.cons)) (fun s hs => by repeat (first | exact hs | apply List.mem_cons_of_mem))
        · have hod : okDay day := by rw [hb69, hb67] at hc69; simpa using hc69
          refine w_skip ?_
          refine t_norm ?_
          refine w_seq ?_
          refine rg_text ?_
          refine x_val rfl rfl rfl (v_move rfl) ?_
          refine x_val rfl rfl rfl (v_nilCheck rfl) ?_
          refine x_val rfl rfl rfl (v_fieldAddr (off' := 0) Tryz.underlying74 rfl sz26 (by decide) rfl rfl) ?_
          refine x_val rfl rfl rfl (v_loadN (vs := ([Value.int .i64 p.first, Value.int .i64 p.days, v1, v2, rowV R es.length]).take 4) Tryz.underlying26 rfl sz26 rfl (fun j hj => at_ownL (vs := [Value.int .i64 p.first, Value.int .i64 p.days, v1, v2, rowV R es.length]) (.head _) (by match j, hj with | 0, _ | 1, _ | 2, _ | 3, _ => rfl))) ?_
          refine x_val rfl rfl rfl (v_move rfl) ?_
          refine x_callv (v := Value.tuple #[.int .i64 ((numP p (rA text).1).getD 0), .bool (numP p (rA text).1).isSome]) rfl rfl rfl Tryz.func47 (by kernel_rfl) rfl (fun w1 hw1 => c_rNumber p (rA text).1 w1 (hp w1 _ (hw1.less (List.Sublist.refl _) (fun s hs => by repeat (first | exact hs | apply List.mem_cons_of_mem)))) (keep_new hn32 hw1 (by repeat (first | exact List.Mem.head _ | apply List.Mem.tail)) hm32)) ?_
          refine x_val rfl rfl rfl (v_move rfl) ?_
          refine x_val rfl rfl rfl (v_extract rfl rfl) ?_
          refine x_bool rfl rfl rfl (v_extract rfl rfl) ?_
          intro b78 hb78
          refine x_val rfl rfl rfl (v_assign rfl) ?_
          refine x_val rfl rfl rfl (v_assign rfl) ?_
          refine x_end ?_
          refine t_norm ?_
          refine w_seq ?_
          refine rg_text ?_
          refine x_val rfl rfl rfl (v_move rfl) ?_
          refine x_val rfl rfl rfl (v_nilCheck rfl) ?_
          refine x_val rfl rfl rfl (v_fieldAddr (off' := 0) Tryz.underlying74 rfl sz26 (by decide) rfl rfl) ?_
          refine x_val rfl rfl rfl (v_loadN (vs := ([Value.int .i64 p.first, Value.int .i64 p.days, v1, v2, rowV R es.length]).take 4) Tryz.underlying26 rfl sz26 rfl (fun j hj => at_ownL (vs := [Value.int .i64 p.first, Value.int .i64 p.days, v1, v2, rowV R es.length]) (.head _) (by match j, hj with | 0, _ | 1, _ | 2, _ | 3, _ => rfl))) ?_
          refine x_val rfl rfl rfl (v_move rfl) ?_
          refine x_callv (v := Value.tuple #[.int .i64 ((numP p (rB text).1).getD 0), .bool (numP p (rB text).1).isSome]) rfl rfl rfl Tryz.func47 (by kernel_rfl) rfl (fun w1 hw1 => by
            rw [hB]
            exact c_rNumber p (rA text).1 w1 (hp w1 _ (hw1.less (List.Sublist.refl _) (fun s hs => by repeat (first | exact hs | apply List.mem_cons_of_mem)))) (keep_new hn32 hw1 (by repeat (first | exact List.Mem.head _ | apply List.Mem.tail)) hm32)) ?_
          refine x_val rfl rfl rfl (v_move rfl) ?_
          refine x_val rfl rfl rfl (v_extract rfl rfl) ?_
          refine x_bool rfl rfl rfl (v_extract rfl rfl) ?_
          intro b87 hb87
          refine x_val rfl rfl rfl (v_assign rfl) ?_
          refine x_val rfl rfl rfl (v_assign rfl) ?_
          refine x_end ?_
          refine t_norm ?_
          refine w_seq_cut (σ := Ent) (fun x => (takeQ p es text day = if meets es x = true then (es, 22) else (insE es x, 0)) ∧ entOK x ∧ x.day = day ∧ x.sk = tkS text) (fun x => [(0, Value.pointer (some ⟨bs, 0, none⟩)), (2, Value.int .i64 x.day), (8, Value.bool x.sk), (13, Value.int .i64 x.fr), (15, Value.int .i64 x.to)]) (fun x => (bs, Obj.cells ([Value.int .i64 p.first, Value.int .i64 p.days, v1, v2, rowV R es.length]).toArray 74 (0, 0)) :: (rowO 91 R ++ l2)) (fun x => ro) ?_ ?_
          · refine w_seq ?_
            refine rg_text ?_
            refine x_val rfl rfl rfl (v_move rfl) ?_
            refine x_bool rfl rfl rfl (v_not rfl) ?_
            intro b89 hb89
            refine x_val rfl rfl rfl (v_move rfl) ?_
            refine x_if [] rfl rfl rfl rfl rfl (fun hg => by obtain ⟨hg0, _⟩ := hg; subst hg0; (try simp only [List.cons_append, List.nil_append, gvl_nil, gvl_t, gvl_f]); exact v_move rfl) ?_
            refine x_ifb [] rfl rfl rfl rfl rfl (fun hg => by obtain ⟨hg0, _⟩ := hg; subst hg0; (try simp only [List.cons_append, List.nil_append, gvl_nil, gvl_t, gvl_f]); exact v_not rfl) ?_
            intro b92 hb92
            refine x_bool rfl rfl rfl (v_or rfl rfl) ?_
            intro b93 hb93
            refine x_val rfl rfl rfl (v_move rfl) ?_
            refine x_if [] rfl rfl rfl rfl rfl (fun hg => by obtain ⟨hg0, _⟩ := hg; subst hg0; (try simp only [List.cons_append, List.nil_append, gvl_nil, gvl_t, gvl_f]); exact v_move rfl) ?_
            refine x_if [] rfl rfl rfl rfl rfl (fun hg => by obtain ⟨hg0, _⟩ := hg; subst hg0; (try simp only [List.cons_append, List.nil_append, gvl_nil, gvl_t, gvl_f]); exact v_move rfl) ?_
            refine x_ifb [] rfl rfl rfl rfl rfl (fun hg => by obtain ⟨hg0, _⟩ := hg; subst hg0; (try simp only [List.cons_append, List.nil_append, gvl_nil, gvl_t, gvl_f]); exact v_lss rfl rfl) ?_
            intro b97 hb97
            refine x_bool rfl rfl rfl (v_or rfl rfl) ?_
            intro b98 hb98
            refine x_val rfl rfl rfl (v_move rfl) ?_
            refine x_if [] rfl rfl rfl rfl rfl (fun hg => by obtain ⟨hg0, _⟩ := hg; subst hg0; (try simp only [List.cons_append, List.nil_append, gvl_nil, gvl_t, gvl_f]); exact v_move rfl) ?_
            refine x_if [] rfl rfl rfl rfl rfl (fun hg => by obtain ⟨hg0, _⟩ := hg; subst hg0; (try simp only [List.cons_append, List.nil_append, gvl_nil, gvl_t, gvl_f]); exact v_move rfl) ?_
            have r1 := numP_rng p (rA text).1
            have r2 := numP_rng p (rB text).1
            refine x_if [] rfl rfl rfl rfl rfl (fun hg => by obtain ⟨hg0, _⟩ := hg; subst hg0; (try simp only [List.cons_append, List.nil_append, gvl_nil, gvl_t, gvl_f]); exact v_subi rfl rfl rfl (by first | omega | (dsimp only; omega))) ?_
            refine x_if [] rfl rfl rfl rfl rfl (fun hg => by obtain ⟨hg0, _⟩ := hg; subst hg0; (try simp only [List.cons_append, List.nil_append, gvl_nil, gvl_t, gvl_f]); exact v_addi rfl rfl rfl (by first | omega | (dsimp only; omega))) ?_
            refine x_ifb [] rfl rfl rfl rfl rfl (fun hg => by obtain ⟨hg0, _⟩ := hg; subst hg0; (try simp only [List.cons_append, List.nil_append, gvl_nil, gvl_t, gvl_f]); exact v_gtr rfl rfl) ?_
            intro b104 hb104
            refine x_bool rfl rfl rfl (v_or rfl rfl) ?_
            intro b105 hb105
            refine x_end ?_
            refine t_norm ?_
            refine w_cond rfl (fun hc105 => ?_) (fun hc105 => ?_)
            · have hT : takeQ p es text day = (es, 32) := rT_none hro hod (by
                have hc := hc105
                have r1 := numP_rng p (rA text).1
                have r2 := numP_rng p (rB text).1
                simp only [hb105, hb104, hb98, hb97, hb93, hb92, hb89, hb87, hb78, Bool.or_eq_true, Bool.not_eq_true', decide_eq_true_eq] at hc
                rcases hc with ((hc | hc) | hc) | hc
                · exact .inl hc
                · exact .inr (.inl hc)
                · exact .inr (.inr (.inl hc))
                · exact .inr (.inr (.inr (by omega))))
              refine w_seq ?_
              refine rg_text ?_
              refine x_val rfl rfl rfl (v_assign rfl) ?_
              refine x_end ?_
              refine t_norm ?_
              refine w_ret ?_
              refine t_ret ?_
              refine ret1 rfl rfl (fun w' hm => ⟨R, by rw [hT], by rw [hT]; exact hR, ?_⟩)
              rw [hT]
              exact hm.less (by repeat (first | exact List.Sublist.refl _ | apply List.Sublist.cons)) (fun s hs => by repeat (first | exact hs | apply List.mem_cons_of_mem))
            · have hc := hc105
              simp only [hb105, hb104, hb98, hb97, hb93, hb92, hb89, hb87, hb78, Bool.or_eq_false_iff, Bool.not_eq_false', decide_eq_false_iff_not] at hc
              obtain ⟨⟨⟨h1, h2⟩, h3⟩, h4⟩ := hc
              have h9 := rT_some (p := p) (es := es) (text := text) hro hod h1 h2 h3 (by omega)
              refine w_skip ?_
              exact c_norm (⟨((numP p (rA text).1).getD 0), ((numP p (rB text).1).getD 0), tkS text, day⟩ : Ent) ⟨h9.2, h9.1, rfl, rfl⟩ (by repeat (first | exact Sub.nil | refine Sub.cons rfl ?_)) (fun w1 h => h.less (by repeat (first | exact List.Sublist.refl _ | apply List.Sublist.cons)) (fun s hs => by repeat (first | exact hs | apply List.mem_cons_of_mem)))
          · rintro x ⟨hTx, hx, hxd, hxs⟩
            refine w_seq ?_
            refine rg_text ?_
            refine x_val rfl rfl rfl (v_assign rfl) ?_
            refine x_end ?_
            refine t_norm ?_
            refine w_seq ?_
            refine w_seq ?_
            refine rg_text ?_
            refine x_val rfl rfl rfl (v_assign rfl) ?_
            refine x_end ?_
            refine t_norm ?_
            refine w_block ?_
            obtain ⟨e1, e2, e3, e4, e5⟩ := id hx
            have e6 := e5
            unfold okDay at e6
            refine w_loop (σ := Nat) (fun k => k ≤ es.length ∧ ∀ j (h : j < es.length), j < k → ¬(x.fr ≤ es[j].to ∧ es[j].fr ≤ x.to)) (fun k => [(0, .pointer (some ⟨bs, 0, none⟩)), (2, Value.int .i64 x.day), (8, Value.bool x.sk), (13, Value.int .i64 x.fr), (15, Value.int .i64 x.to), (17, Value.int .i64 (plc es x.fr k : Nat)), (18, Value.int .i64 (k : Nat))]) (fun k => (bs, Obj.cells ([Value.int .i64 p.first, Value.int .i64 p.days, v1, v2, rowV R es.length]).toArray 74 (0, 0)) :: (rowO 91 R ++ l2)) (fun k => ro) (fun k => es.length - k) (0) (⟨Nat.zero_le _, by intros; omega⟩) (l_start (by repeat (first | exact Sub.nil | refine Sub.cons rfl ?_)) (fun _ h => h)) ?_
            rintro k ⟨hk, hno⟩
            refine w_state ([(0, .pointer (some ⟨bs, 0, none⟩)), (2, Value.int .i64 x.day), (8, Value.bool x.sk), (13, Value.int .i64 x.fr), (15, Value.int .i64 x.to), (17, Value.int .i64 (plc es x.fr k : Nat)), (18, Value.int .i64 (k : Nat))]) ((bs, Obj.cells ([Value.int .i64 p.first, Value.int .i64 p.days, v1, v2, rowV R es.length]).toArray 74 (0, 0)) :: (rowO 91 R ++ l2)) (ro) ?_
            refine w_seq ?_
            refine w_seq ?_
            refine rg_text ?_
            refine x_val rfl rfl rfl (v_move rfl) ?_
            refine x_val rfl rfl rfl (v_move rfl) ?_
            refine x_val rfl rfl rfl (v_nilCheck rfl) ?_
            refine x_val rfl rfl rfl (v_fieldAddr (off' := 4) Tryz.underlying74 rfl sz72 (by decide) rfl rfl) ?_
            refine x_val rfl rfl rfl (v_load Tryz.underlying72 rfl rfl (at_ownL (vs := [Value.int .i64 p.first, Value.int .i64 p.days, v1, v2, rowV R es.length]) (by repeat (first | exact List.Mem.head _ | apply List.Mem.tail)) rfl)) ?_
            refine x_val rfl rfl rfl (v_len_slice Tryz.underlying72 rfl) ?_
            refine x_bool rfl rfl rfl (v_lss rfl rfl) ?_
            intro b112 hb112
            refine x_end ?_
            refine t_norm ?_
            refine w_cond rfl (fun hc112 => ?_) (fun hc112 => ?_)
            · simp only [hb112, decide_eq_true_eq, decide_eq_false_iff_not, Bool.and_eq_true, Bool.or_eq_true, Bool.and_eq_false_iff, Bool.or_eq_false_iff, Bool.not_eq_true', Bool.not_eq_false', ne_eq, Decidable.not_not] at hc112
              have hkl : k < es.length := by omega
              obtain ⟨bg, csg, cpg, hge, _⟩ := hR.cell (j := 0) (by rw [entsC_len]; omega)
              refine w_skip ?_
              refine t_norm ?_
              refine w_seq ?_
              refine w_block ?_
              refine w_seq ?_
              refine rg_text ?_
              refine x_val rfl rfl rfl (v_move rfl) ?_
              refine x_val rfl rfl rfl (v_nilCheck rfl) ?_
              refine x_val rfl rfl rfl (v_fieldAddr (off' := 4) Tryz.underlying74 rfl sz72 (by decide) rfl rfl) ?_
              refine x_val rfl rfl rfl (v_load Tryz.underlying72 rfl rfl (at_ownL (vs := [Value.int .i64 p.first, Value.int .i64 p.days, v1, v2, rowV R es.length]) (by repeat (first | exact List.Mem.head _ | apply List.Mem.tail)) rfl)) ?_
              refine x_val rfl rfl rfl (v_move rfl) ?_
              refine x_val rfl rfl rfl (v_indexAddr Tryz.underlying72 sz91 (congrArg (fun q => some (rowV q es.length)) hge) rfl (by first | omega | (dsimp only; omega)) rfl) ?_
              refine x_val rfl rfl rfl (v_fieldAddr Tryz.underlying91 rfl sz3 (by decide) rfl rfl) ?_
              refine x_val rfl rfl rfl (v_load Tryz.underlying3 rfl rfl (at_ownL (vs := csg) (show (bg, Obj.cells csg.toArray 91 (0, 0)) ∈ _ by rw [hge]; simp [rowO]) (rowE_at (j := 1) (hge ▸ hR) rfl hkl (show 1 < 4 by decide)))) ?_
              refine x_val rfl rfl rfl (v_move rfl) ?_
              refine x_bool rfl rfl rfl (v_lss rfl rfl) ?_
              intro b124 hb124
              refine x_end ?_
              refine t_norm ?_
              refine w_cond rfl (fun hc124 => ?_) (fun hc124 => ?_)
              · simp only [hb124, decide_eq_true_eq, decide_eq_false_iff_not, Bool.and_eq_true, Bool.or_eq_true, Bool.and_eq_false_iff, Bool.or_eq_false_iff, Bool.not_eq_true', Bool.not_eq_false', ne_eq, Decidable.not_not] at hc124
                refine rg_text ?_
                refine x_val rfl rfl rfl (v_move rfl) ?_
                refine x_val rfl rfl rfl (v_addi rfl rfl rfl (by first | omega | (dsimp only; omega))) ?_
                refine x_val rfl rfl rfl (v_assign rfl) ?_
                refine x_end ?_
                refine b_norm ?_
                refine t_norm ?_
                refine rg_text ?_
                refine x_val rfl rfl rfl (v_move rfl) ?_
                refine x_val rfl rfl rfl (v_addi rfl rfl rfl (by first | omega | (dsimp only; omega))) ?_
                refine x_val rfl rfl rfl (v_assign rfl) ?_
                refine x_end ?_
                exact l_norm (x := k) (μ := fun q : Nat => es.length - q) (k + 1) ⟨hkl, fun j hj hjk => by rcases Nat.lt_succ_iff_lt_or_eq.1 hjk with h3 | rfl; (· exact hno j hj h3); omega⟩ (by omega) (by (try dsimp only); rw [plc_yes hkl (by omega)]; exact (by repeat (first | exact Sub.nil | refine Sub.cons rfl ?_))) (fun _ h => h)
              · simp only [hb124, decide_eq_true_eq, decide_eq_false_iff_not, Bool.and_eq_true, Bool.or_eq_true, Bool.and_eq_false_iff, Bool.or_eq_false_iff, Bool.not_eq_true', Bool.not_eq_false', ne_eq, Decidable.not_not] at hc124
                refine w_seq ?_
                refine rg_text ?_
                refine x_val rfl rfl rfl (v_move rfl) ?_
                refine x_val rfl rfl rfl (v_nilCheck rfl) ?_
                refine x_val rfl rfl rfl (v_fieldAddr (off' := 4) Tryz.underlying74 rfl sz72 (by decide) rfl rfl) ?_
                refine x_val rfl rfl rfl (v_load Tryz.underlying72 rfl rfl (at_ownL (vs := [Value.int .i64 p.first, Value.int .i64 p.days, v1, v2, rowV R es.length]) (by repeat (first | exact List.Mem.head _ | apply List.Mem.tail)) rfl)) ?_
                refine x_val rfl rfl rfl (v_move rfl) ?_
                refine x_val rfl rfl rfl (v_indexAddr Tryz.underlying72 sz91 (congrArg (fun q => some (rowV q es.length)) hge) rfl (by first | omega | (dsimp only; omega)) rfl) ?_
                refine x_val rfl rfl rfl (v_fieldAddr Tryz.underlying91 rfl sz3 (by decide) rfl rfl) ?_
                refine x_val rfl rfl rfl (v_load Tryz.underlying3 rfl rfl (at_ownL (vs := csg) (show (bg, Obj.cells csg.toArray 91 (0, 0)) ∈ _ by rw [hge]; simp [rowO]) (rowE_at (j := 0) (hge ▸ hR) rfl hkl (show 0 < 4 by decide)))) ?_
                refine x_val rfl rfl rfl (v_move rfl) ?_
                refine x_bool rfl rfl rfl (v_leq rfl rfl) ?_
                intro b136 hb136
                refine x_end ?_
                refine t_norm ?_
                refine w_cond rfl (fun hc136 => ?_) (fun hc136 => ?_)
                · simp only [hb136, decide_eq_true_eq, decide_eq_false_iff_not, Bool.and_eq_true, Bool.or_eq_true, Bool.and_eq_false_iff, Bool.or_eq_false_iff, Bool.not_eq_true', Bool.not_eq_false', ne_eq, Decidable.not_not] at hc136
                  have hT : takeQ p es text day = (es, 22) := by rw [hTx, if_pos (meets_yes ⟨es[k], List.getElem_mem hkl, by omega, by omega⟩)]
                  refine w_seq ?_
                  refine rg_text ?_
                  refine x_val rfl rfl rfl (v_assign rfl) ?_
                  refine x_end ?_
                  refine t_norm ?_
                  refine w_ret ?_
                  refine b_ret ?_
                  refine t_ret ?_
                  refine t_ret ?_
                  refine b_ret ?_
                  refine t_ret ?_
                  refine ret1 rfl rfl (fun w' hm => ⟨R, by rw [hT], by rw [hT]; exact hR, ?_⟩)
                  rw [hT]
                  exact hm.less (by repeat (first | exact List.Sublist.refl _ | apply List.Sublist.cons)) (fun s hs => by repeat (first | exact hs | apply List.mem_cons_of_mem))
                · simp only [hb136, decide_eq_true_eq, decide_eq_false_iff_not, Bool.and_eq_true, Bool.or_eq_true, Bool.and_eq_false_iff, Bool.or_eq_false_iff, Bool.not_eq_true', Bool.not_eq_false', ne_eq, Decidable.not_not] at hc136
                  refine w_skip ?_
                  refine b_norm ?_
                  refine t_norm ?_
                  refine rg_text ?_
                  refine x_val rfl rfl rfl (v_move rfl) ?_
                  refine x_val rfl rfl rfl (v_addi rfl rfl rfl (by first | omega | (dsimp only; omega))) ?_
                  refine x_val rfl rfl rfl (v_assign rfl) ?_
                  refine x_end ?_
                  exact l_norm (x := k) (μ := fun q : Nat => es.length - q) (k + 1) ⟨hkl, fun j hj hjk => by rcases Nat.lt_succ_iff_lt_or_eq.1 hjk with h3 | rfl; (· exact hno j hj h3); omega⟩ (by omega) (by (try dsimp only); rw [plc_no hkl (by omega)]; exact (by repeat (first | exact Sub.nil | refine Sub.cons rfl ?_))) (fun _ h => h)
            · simp only [hb112, decide_eq_true_eq, decide_eq_false_iff_not, Bool.and_eq_true, Bool.or_eq_true, Bool.and_eq_false_iff, Bool.or_eq_false_iff, Bool.not_eq_true', Bool.not_eq_false', ne_eq, Decidable.not_not] at hc112
              obtain rfl : k = es.length := by omega
              have hmt : meets es x = false := meets_iff.2 (fun j hj => hno j hj hj)
              have hT : takeQ p es text day = (insE es x, 0) := by rw [hTx, hmt]; rfl
              obtain ⟨m, hm9⟩ : ∃ m, plc es x.fr es.length = m := ⟨_, rfl⟩
              have hml : m ≤ es.length := hm9 ▸ plc_le es x.fr _
              have hins := plc_ins hsrt hx hmt
              rw [hm9] at hins
              have hcap := hR.cap
              refine w_exit ?_
              refine t_exit ?_
              refine t_exit ?_
              refine b_hit ?_
              refine t_norm ?_
              refine w_seq ?_
              refine rg_text ?_
              refine x_val rfl rfl rfl (v_assign rfl) ?_
              refine x_end ?_
              refine t_norm ?_
              refine w_seq ?_
              refine rg_text ?_
              refine x_val rfl rfl rfl (v_move rfl) ?_
              refine x_val rfl rfl rfl (v_move rfl) ?_
              refine x_val rfl rfl rfl (v_nilCheck rfl) ?_
              refine x_val rfl rfl rfl (v_fieldAddr (off' := 4) Tryz.underlying74 rfl sz72 (by decide) rfl rfl) ?_
              refine x_val rfl rfl rfl (v_load Tryz.underlying72 rfl rfl (at_ownL (vs := [Value.int .i64 p.first, Value.int .i64 p.days, v1, v2, rowV R es.length]) (by repeat (first | exact List.Mem.head _ | apply List.Mem.tail)) rfl)) ?_
              refine x_val (v := Value.int .i64 (m : Nat)) rfl rfl rfl (by rw [← hm9]; exact v_move rfl) ?_
              refine x_val rfl rfl rfl (v_scut_to (j := m) Tryz.underlying72 sz91 rfl rfl (by omega)) ?_
              refine x_append_any (e := 91) (ao := rowA R) (c2 := rowC R) (m := m) (news := entsC (es.take m)) ((bs, Obj.cells ([Value.int .i64 p.first, Value.int .i64 p.days, v1, v2, rowV R es.length]).toArray 74 (0, 0)) :: (rowO 91 R ++ l2)) (l2 := []) none (len := 0) (xs := []) rfl rfl rfl rfl (by simp [rowO]) rowOK_nil Tryz.underlying72 ap91 rfl (by rw [entsC_len, List.length_take, Nat.min_eq_left hml]) (fun h => by have := row_none hR h; omega) (fun w1 hw1 a ha j u hu => row_head (e := 91) hR hw1 (fun q hq => List.mem_cons_of_mem _ (List.mem_append_left _ hq)) ha hu) (entsC_one _) (by simp only [maxLen]; omega) (by omega) ?_
              intro R1 hR1
              rw [List.nil_append] at hR1
              rw [show 0 + m = m from Nat.zero_add m] at hR1 ⊢
              refine x_val rfl rfl rfl (v_assign rfl) ?_
              refine x_end ?_
              refine t_norm ?_
              refine w_seq ?_
              refine rg_text ?_
              refine x_val rfl rfl rfl (v_move rfl) ?_
              refine x_val rfl rfl rfl (v_move rfl) ?_
              refine x_val rfl rfl rfl (v_move rfl) ?_
              refine x_val rfl rfl rfl (v_move rfl) ?_
              refine x_val rfl rfl rfl (v_move rfl) ?_
              refine x_val (v := Value.agg (entC x).toArray) rfl rfl rfl (v_buildL (places := [(0, 1), (1, 1), (2, 1), (3, 1)]) Tryz.underlying91 zr91 (by kernel_rfl) rfl rfl) ?_
              refine x_buildSliceL (cs := entC x) rfl rfl rfl Tryz.underlying72 sz91 zr91 rfl rfl rfl ?_
              intro p151
              refine x_append (e := 91) ((p151, Obj.cells (entC x).toArray 91 (0, 0)) :: ((bs, Obj.cells ([Value.int .i64 p.first, Value.int .i64 p.days, v1, v2, rowV R es.length]).toArray 74 (0, 0)) :: (rowO 91 R ++ l2))) (l2 := []) R1 (len := m) (xs := entsC (es.take m)) rfl rfl rfl rfl (by simp [List.append_assoc]) hR1 Tryz.underlying72 ap91 rfl rfl (m := 1) (news := entC x) (fun j hj => at_ownL (vs := entC x) (.head _) (by rw [Nat.zero_add]; exact List.getElem?_eq_getElem hj)) rfl (by simp only [maxLen]; omega) (by omega) ?_
              intro R2 hR2
              refine x_val rfl rfl rfl (v_assign rfl) ?_
              refine x_end ?_
              refine t_norm ?_
              refine w_seq ?_
              refine rg_text ?_
              refine x_val rfl rfl rfl (v_move rfl) ?_
              refine x_val rfl rfl rfl (v_move rfl) ?_
              refine x_val rfl rfl rfl (v_move rfl) ?_
              refine x_val rfl rfl rfl (v_nilCheck rfl) ?_
              refine x_val rfl rfl rfl (v_fieldAddr (off' := 4) Tryz.underlying74 rfl sz72 (by decide) rfl rfl) ?_
              refine x_val rfl rfl rfl (v_load Tryz.underlying72 rfl rfl (at_ownL (vs := [Value.int .i64 p.first, Value.int .i64 p.days, v1, v2, rowV R es.length]) (by repeat (first | exact List.Mem.head _ | apply List.Mem.tail)) rfl)) ?_
              refine x_val (v := Value.int .i64 (m : Nat)) rfl rfl rfl (by rw [← hm9]; exact v_move rfl) ?_
              refine x_val rfl rfl rfl (v_scut_from (i := m) Tryz.underlying72 sz91 rfl rfl hml (by omega)) ?_
              refine x_append_any (e := 91) (ao := if rowC R = m then rowA R else (rowA R).map (fun a => a.add (m * 4))) (m := es.length - m) (news := entsC (es.drop m)) ((p151, Obj.cells (entC x).toArray 91 (0, 0)) :: ((bs, Obj.cells ([Value.int .i64 p.first, Value.int .i64 p.days, v1, v2, rowV R es.length]).toArray 74 (0, 0)) :: (rowO 91 R ++ l2))) (l2 := []) R2 (len := m + 1) (xs := entsC (es.take m) ++ entC x) rfl rfl rfl rfl (by simp [List.append_assoc]) hR2 Tryz.underlying72 ap91 rfl (by rw [entsC_len, List.length_drop]) (fun h => by split at h; (· omega); rw [Option.map_eq_none_iff] at h; have := row_none hR h; omega) (fun w1 hw1 a ha j u hu => row_tail (e := 91) hR hw1 (fun q hq => by simp [hq]) hml ha hu) (entsC_one _) (by simp only [maxLen]; omega) (by omega) ?_
              intro R3 hR3
              have e9 : m + 1 + (es.length - m) = es.length + 1 := by omega
              rw [e9] at hR3 ⊢
              refine x_val rfl rfl rfl (v_nilCheck rfl) ?_
              refine x_val rfl rfl rfl (v_fieldAddr (off' := 4) Tryz.underlying74 rfl sz72 (by decide) rfl rfl) ?_
              refine x_store (cs := [Value.int .i64 p.first, Value.int .i64 p.days, v1, v2, rowV R es.length]) (off := 4) (e := 74) (l2 := rowO 91 R ++ l2 ++ rowO 91 R3) [(p151, Obj.cells (entC x).toArray 91 (0, 0))] rfl rfl rfl (by simp [List.append_assoc]) sz72 rfl (by show 5 ≤ 5; decide) ?_
              refine x_end ?_
              refine t_norm ?_
              refine w_seq ?_
              refine rg_text ?_
              refine x_val rfl rfl rfl (v_assign rfl) ?_
              refine x_end ?_
              refine t_norm ?_
              refine w_ret ?_
              have h8 : rowOK 4 R3 (insE es x).length (entsC (insE es x)) := by rw [insE_len, ← hins, entsC_app]; have e8 : entsC (x :: es.drop m) = entC x ++ entsC (es.drop m) := rfl; rw [e8, ← List.append_assoc]; exact hR3
              refine ret1 rfl rfl (fun w' hm => ⟨R3, by rw [hT], by rw [hT]; exact h8, ?_⟩)
              rw [hT]
              show Mem w' ((bs, Obj.cells ([Value.int .i64 p.first, Value.int .i64 p.days, v1, v2, rowV R3 (insE es x).length]).toArray 74 (0, 0)) :: (rowO 91 R3 ++ l2)) ro
              rw [insE_len]
              have hm1 := hm.less (own' := (bs, Obj.cells ([Value.int .i64 p.first, Value.int .i64 p.days, v1, v2, rowV R3 (es.length + 1)]).toArray 74 (0, 0)) :: (l2 ++ rowO 91 R3)) (by
                show List.Sublist _ (_ :: _ :: _)
                refine List.Sublist.cons _ (List.Sublist.cons_cons _ ?_)
                exact (List.sublist_append_right _ _).append (List.Sublist.refl _)) (fun _ h => h)
              exact hm1.perm (List.Perm.cons _ List.perm_append_comm)

end Go.Proofs.YtaniaihoodgmpaaGreatDoor

namespace Go.Proofs.YtaniaihoodgmpaaGreatDoor
open Go.RowKit Go.PK
set_option linter.unusedVariables false
set_option linter.unusedSimpArgs false
set_option maxRecDepth 100000 in
theorem c_rEnt {v1 v2 v3 : Value} {bs : Nat} (p : Pat) (es : List Ent) (q : Int) (w : World) (hS : SerRd w bs p es v1 v2 v3) (hlen : es.length ≤ 100000) :
    Calls Tryz.prog 51 #[.pointer (some ⟨bs, 0, none⟩), .int .i64 q] w fun e w' => ∃ y : Ent, e = .returned (.tuple #[.agg (entC y).toArray, .bool (thereP es q)]) ∧ Later w w' := by
  obtain ⟨A1, c1, rfl, hlc1, hmx1, hB1⟩ := id hS.lvs
  obtain ⟨A2, c2, rfl, hlc2, hmx2, hB2⟩ := id hS.sts
  obtain ⟨A3, c3, rfl, hlc3, hmx3, hB3⟩ := id hS.ent
  refine enter (vs := [.pointer (some ⟨bs, 0, none⟩), .int .i64 q]) Tryz.func51 rfl Tryz.ntmps51 rfl ?_
  refine w_seq ?_
  refine rg_text ?_
  refine x_alloc rfl rfl rfl zr91 ?_
  intro p4
  refine x_val rfl rfl rfl (v_assign rfl) ?_
  refine x_end ?_
  refine t_norm ?_
  refine w_seq ?_
  refine w_seq ?_
  refine rg_text ?_
  refine x_val rfl rfl rfl (v_assign rfl) ?_
  refine x_end ?_
  refine t_norm ?_
  refine w_block ?_
  refine w_loop (σ := Nat) (fun k => k ≤ es.length ∧ ∀ j (h : j < es.length), j < k → ¬(es[j].fr ≤ q ∧ q ≤ es[j].to)) (fun k => [(0, .pointer (some ⟨bs, 0, none⟩)), (1, Value.int .i64 q), (4, .pointer (some ⟨p4, 0, none⟩)), (6, Value.int .i64 (k : Nat))]) (fun k => [(p4, Obj.cells ([Value.int .i64 0, Value.int .i64 0, Value.bool false, Value.int .i64 0]).toArray 91 (0, 0))]) (fun k => [(w, fun _ => True)]) (fun k => es.length - k) (0) (⟨Nat.zero_le _, by intros; omega⟩) (l_start (by repeat (first | exact Sub.nil | refine Sub.cons rfl ?_)) (fun _ h => h)) ?_
  rintro k ⟨hk, hno⟩
  refine w_state ([(0, .pointer (some ⟨bs, 0, none⟩)), (1, Value.int .i64 q), (4, .pointer (some ⟨p4, 0, none⟩)), (6, Value.int .i64 (k : Nat))]) ([(p4, Obj.cells ([Value.int .i64 0, Value.int .i64 0, Value.bool false, Value.int .i64 0]).toArray 91 (0, 0))]) ([(w, fun _ => True)]) ?_
  refine w_seq ?_
  refine w_seq ?_
  refine rg_text ?_
  refine x_val rfl rfl rfl (v_move rfl) ?_
  refine x_val rfl rfl rfl (v_move rfl) ?_
  refine x_val rfl rfl rfl (v_nilCheck rfl) ?_
  refine x_val rfl rfl rfl (v_fieldAddr (off' := 4) Tryz.underlying74 rfl sz72 (by decide) rfl rfl) ?_
  refine x_val rfl rfl rfl (v_load Tryz.underlying72 rfl rfl (at_ro (s := (w, fun _ => True)) (by repeat (first | exact List.Mem.head _ | apply List.Mem.tail)) trivial (hS.cells 4 (by simp)))) ?_
  refine x_val rfl rfl rfl (v_len_slice Tryz.underlying72 rfl) ?_
  refine x_bool rfl rfl rfl (v_lss rfl rfl) ?_
  intro b13 hb13
  refine x_end ?_
  refine t_norm ?_
  refine w_cond rfl (fun hc13 => ?_) (fun hc13 => ?_)
  · simp only [hb13, decide_eq_true_eq, decide_eq_false_iff_not, Bool.and_eq_true, Bool.or_eq_true, Bool.and_eq_false_iff, Bool.or_eq_false_iff, Bool.not_eq_true', Bool.not_eq_false', ne_eq, Decidable.not_not] at hc13
    have hkl : k < es.length := by omega
    obtain ⟨b0, o0, hA0, _, hc0, hin0⟩ := ent_at hS.ent hkl
    refine w_skip ?_
    refine t_norm ?_
    refine w_seq ?_
    refine w_block ?_
    refine w_seq ?_
    refine rg_text ?_
    refine x_val rfl rfl rfl (v_move rfl) ?_
    refine x_val rfl rfl rfl (v_nilCheck rfl) ?_
    refine x_val rfl rfl rfl (v_fieldAddr (off' := 4) Tryz.underlying74 rfl sz72 (by decide) rfl rfl) ?_
    refine x_val rfl rfl rfl (v_load Tryz.underlying72 rfl rfl (at_ro (s := (w, fun _ => True)) (by repeat (first | exact List.Mem.head _ | apply List.Mem.tail)) trivial (hS.cells 4 (by simp)))) ?_
    refine x_val rfl rfl rfl (v_move rfl) ?_
    refine x_val rfl rfl rfl (v_indexAddr Tryz.underlying72 sz91 (congrArg (fun A => some (Value.slice A es.length c3)) hA0) rfl (by first | omega | (dsimp only; omega)) rfl) ?_
    refine x_val rfl rfl rfl (v_fieldAddr Tryz.underlying91 rfl sz3 (by decide) rfl rfl) ?_
    refine x_val rfl rfl rfl (v_load Tryz.underlying3 rfl rfl (at_ro (s := (w, fun _ => True)) (by repeat (first | exact List.Mem.head _ | apply List.Mem.tail)) trivial (hc0 0 (show 0 < 4 by decide)))) ?_
    refine x_val rfl rfl rfl (v_move rfl) ?_
    refine x_bool rfl rfl rfl (v_leq rfl rfl) ?_
    intro b25 hb25
    refine x_val rfl rfl rfl (v_move rfl) ?_
    refine x_if [] rfl rfl rfl rfl rfl (fun hg => by obtain ⟨hg0, _⟩ := hg; subst hg0; (try simp only [List.cons_append, List.nil_append, gvl_nil, gvl_t, gvl_f]); exact v_move rfl) ?_
    refine x_if [] rfl rfl rfl rfl rfl (fun hg => by obtain ⟨hg0, _⟩ := hg; subst hg0; (try simp only [List.cons_append, List.nil_append, gvl_nil, gvl_t, gvl_f]); exact v_move rfl) ?_
    refine x_if [] rfl rfl rfl rfl rfl (fun hg => by obtain ⟨hg0, _⟩ := hg; subst hg0; (try simp only [List.cons_append, List.nil_append, gvl_nil, gvl_t, gvl_f]); exact v_nilCheck rfl) ?_
    refine x_if [] rfl rfl rfl rfl rfl (fun hg => by obtain ⟨hg0, _⟩ := hg; subst hg0; (try simp only [List.cons_append, List.nil_append, gvl_nil, gvl_t, gvl_f]); exact v_fieldAddr (off' := 4) Tryz.underlying74 rfl sz72 (by decide) rfl rfl) ?_
    refine x_if [] rfl rfl rfl rfl rfl (fun hg => by obtain ⟨hg0, _⟩ := hg; subst hg0; (try simp only [List.cons_append, List.nil_append, gvl_nil, gvl_t, gvl_f]); exact v_load Tryz.underlying72 rfl rfl (at_ro (s := (w, fun _ => True)) (by repeat (first | exact List.Mem.head _ | apply List.Mem.tail)) trivial (hS.cells 4 (by simp)))) ?_
    refine x_if [] rfl rfl rfl rfl rfl (fun hg => by obtain ⟨hg0, _⟩ := hg; subst hg0; (try simp only [List.cons_append, List.nil_append, gvl_nil, gvl_t, gvl_f]); exact v_move rfl) ?_
    refine x_if [] rfl rfl rfl rfl rfl (fun hg => by obtain ⟨hg0, _⟩ := hg; subst hg0; (try simp only [List.cons_append, List.nil_append, gvl_nil, gvl_t, gvl_f]); exact v_indexAddr Tryz.underlying72 sz91 (congrArg (fun A => some (Value.slice A es.length c3)) hA0) rfl (by first | omega | (dsimp only; omega)) rfl) ?_
    refine x_if [] rfl rfl rfl rfl rfl (fun hg => by obtain ⟨hg0, _⟩ := hg; subst hg0; (try simp only [List.cons_append, List.nil_append, gvl_nil, gvl_t, gvl_f]); exact v_fieldAddr Tryz.underlying91 rfl sz3 (by decide) rfl rfl) ?_
    refine x_if [] rfl rfl rfl rfl rfl (fun hg => by obtain ⟨hg0, _⟩ := hg; subst hg0; (try simp only [List.cons_append, List.nil_append, gvl_nil, gvl_t, gvl_f]); exact v_load Tryz.underlying3 rfl rfl (at_ro (s := (w, fun _ => True)) (by repeat (first | exact List.Mem.head _ | apply List.Mem.tail)) trivial (hc0 1 (show 1 < 4 by decide)))) ?_
    refine x_ifb [] rfl rfl rfl rfl rfl (fun hg => by obtain ⟨hg0, _⟩ := hg; subst hg0; (try simp only [List.cons_append, List.nil_append, gvl_nil, gvl_t, gvl_f]); exact v_leq rfl rfl) ?_
    intro b36 hb36
    refine x_bool rfl rfl rfl (v_and rfl rfl) ?_
    intro b37 hb37
    refine x_end ?_
    refine t_norm ?_
    refine w_cond rfl (fun hc37 => ?_) (fun hc37 => ?_)
    · simp only [hb37, hb36, hb25, decide_eq_true_eq, decide_eq_false_iff_not, Bool.and_eq_true, Bool.or_eq_true, Bool.and_eq_false_iff, Bool.or_eq_false_iff, Bool.not_eq_true', Bool.not_eq_false', ne_eq, Decidable.not_not] at hc37
      refine w_seq ?_
      refine rg_text ?_
      refine x_val rfl rfl rfl (v_move rfl) ?_
      refine x_val rfl rfl rfl (v_nilCheck rfl) ?_
      refine x_val rfl rfl rfl (v_fieldAddr (off' := 4) Tryz.underlying74 rfl sz72 (by decide) rfl rfl) ?_
      refine x_val rfl rfl rfl (v_load Tryz.underlying72 rfl rfl (at_ro (s := (w, fun _ => True)) (by repeat (first | exact List.Mem.head _ | apply List.Mem.tail)) trivial (hS.cells 4 (by simp)))) ?_
      refine x_val rfl rfl rfl (v_move rfl) ?_
      refine x_val rfl rfl rfl (v_indexAddr Tryz.underlying72 sz91 (congrArg (fun A => some (Value.slice A es.length c3)) hA0) rfl (by first | omega | (dsimp only; omega)) rfl) ?_
      refine x_val rfl rfl rfl (v_loadN (vs := entC es[k]) Tryz.underlying91 rfl sz91 rfl (fun j hj => at_ro (s := (w, fun _ => True)) (by repeat (first | exact List.Mem.head _ | apply List.Mem.tail)) trivial (hc0 j hj))) ?_
      refine x_store0 (cs := ([Value.int .i64 0, Value.int .i64 0, Value.bool false, Value.int .i64 0]).toArray) (e := 91) (l2 := []) [] rfl rfl rfl rfl sz91 rfl rfl ?_
      refine x_val rfl rfl rfl (v_assign rfl) ?_
      refine x_end ?_
      refine t_norm ?_
      refine w_ret ?_
      refine b_ret ?_
      refine t_ret ?_
      refine t_ret ?_
      refine b_ret ?_
      refine t_ret ?_
      refine retct rfl rfl rfl (.head _) Tryz.underlying91 rfl sz91 (fun w' hm => ⟨es[k], by rw [thereP_yes hkl ⟨by omega, by omega⟩]; rfl, hm.base (by simp)⟩)
    · simp only [hb37, hb36, hb25, decide_eq_true_eq, decide_eq_false_iff_not, Bool.and_eq_true, Bool.or_eq_true, Bool.and_eq_false_iff, Bool.or_eq_false_iff, Bool.not_eq_true', Bool.not_eq_false', ne_eq, Decidable.not_not] at hc37
      refine w_skip ?_
      refine b_norm ?_
      refine t_norm ?_
      refine rg_text ?_
      refine x_val rfl rfl rfl (v_move rfl) ?_
      refine x_val rfl rfl rfl (v_addi rfl rfl rfl (by first | omega | (dsimp only; omega))) ?_
      refine x_val rfl rfl rfl (v_assign rfl) ?_
      refine x_end ?_
      exact l_norm (k + 1) ⟨hkl, fun j hj hjk => by rcases Nat.lt_succ_iff_lt_or_eq.1 hjk with h3 | rfl; (· exact hno j hj h3); omega⟩ (by omega) (by repeat (first | exact Sub.nil | refine Sub.cons rfl ?_)) (fun _ h => h)
  · simp only [hb13, decide_eq_true_eq, decide_eq_false_iff_not, Bool.and_eq_true, Bool.or_eq_true, Bool.and_eq_false_iff, Bool.or_eq_false_iff, Bool.not_eq_true', Bool.not_eq_false', ne_eq, Decidable.not_not] at hc13
    obtain rfl : k = es.length := by omega
    refine w_exit ?_
    refine t_exit ?_
    refine t_exit ?_
    refine b_hit ?_
    refine t_norm ?_
    refine w_seq ?_
    refine rg_text ?_
    refine x_val (v := Value.agg ([Value.int .i64 0, Value.int .i64 0, Value.bool false, Value.int .i64 0]).toArray) rfl rfl rfl (v_buildL (places := [(0, 1), (1, 1), (2, 1), (3, 1)]) Tryz.underlying91 zr91 (by kernel_rfl) rfl rfl) ?_
    refine x_store0 (cs := ([Value.int .i64 0, Value.int .i64 0, Value.bool false, Value.int .i64 0]).toArray) (e := 91) (l2 := []) [] rfl rfl rfl rfl sz91 rfl rfl ?_
    refine x_val rfl rfl rfl (v_assign rfl) ?_
    refine x_end ?_
    refine t_norm ?_
    refine w_ret ?_
    refine retct rfl rfl rfl (.head _) Tryz.underlying91 rfl sz91 (fun w' hm => ⟨⟨0, 0, false, 0⟩, by rw [thereP_take (fun j hj => hno j hj hj)]; rfl, hm.base (by simp)⟩)
set_option maxHeartbeats 1000000 in
set_option maxRecDepth 100000 in
theorem c_rHeld {v1 v2 v3 : Value} {bs : Nat} (p : Pat) (es : List Ent) (w : World) (hS : SerRd w bs p es v1 v2 v3) (hq : es ≠ [] → rightQ p) (hok : ∀ x ∈ es, entOK x) (hlen : es.length ≤ 100000) :
    Calls Tryz.prog 20 #[.pointer (some ⟨bs, 0, none⟩)] w fun e w' => ∃ v, e = .returned v ∧ Later w w' ∧ sliceRd tyIss (fun b => w.heap.size ≤ b) w' v (heldP p es) := by
  obtain ⟨A1, c1, rfl, hlc1, hmx1, hB1⟩ := id hS.lvs
  obtain ⟨A2, c2, rfl, hlc2, hmx2, hB2⟩ := id hS.sts
  obtain ⟨A3, c3, rfl, hlc3, hmx3, hB3⟩ := id hS.ent
  refine enter (vs := [.pointer (some ⟨bs, 0, none⟩)]) Tryz.func20 rfl Tryz.ntmps20 rfl ?_
  refine w_seq ?_
  refine rg_text ?_
  refine x_val rfl rfl rfl (v_assign rfl) ?_
  refine x_end ?_
  refine t_norm ?_
  refine w_seq ?_
  refine rg_text ?_
  refine x_val rfl rfl rfl (v_assign rfl) ?_
  refine x_end ?_
  refine t_norm ?_
  refine w_seq ?_
  refine w_seq ?_
  refine rg_text ?_
  refine x_val rfl rfl rfl (v_assign rfl) ?_
  refine x_end ?_
  refine t_norm ?_
  refine w_block ?_
  refine w_fix (rowO 48 none) (List.Sublist.refl _) (fun w0 hm0 => ?_)
  refine w_loop (σ := RowS × Nat × World) (fun x => x.2.1 ≤ es.length ∧ RowT tyIss (newD w (rowO 48 x.1)) x.2.2 x.1 (heldP p (es.take x.2.1))) (fun x => [(0, .pointer (some ⟨bs, 0, none⟩)), (3, rowV x.1 (heldP p (es.take x.2.1)).length), (4, Value.int .i64 (x.2.1 : Nat))]) (fun x => rowO 48 x.1) (fun x => (x.2.2, notOwn (rowO 48 x.1)) :: [(w, fun _ => True)]) (fun x => es.length - x.2.1) ((none, 0, w0)) (⟨Nat.zero_le _, RowT.nil⟩) (l_start (by repeat (first | exact Sub.nil | refine Sub.cons rfl ?_)) (fun _ h => h)) ?_
  rintro ⟨R, k, ws⟩ ⟨hk, hT⟩
  refine w_state ([(0, .pointer (some ⟨bs, 0, none⟩)), (3, rowV R (heldP p (es.take k)).length), (4, Value.int .i64 (k : Nat))]) (rowO 48 R) ((ws, notOwn (rowO 48 R)) :: [(w, fun _ => True)]) ?_
  dsimp only at hk hT
  have hhl := heldP_len (p := p) hok k
  refine w_seq ?_
  refine w_seq ?_
  refine rg_text ?_
  refine x_val rfl rfl rfl (v_move rfl) ?_
  refine x_val rfl rfl rfl (v_move rfl) ?_
  refine x_val rfl rfl rfl (v_nilCheck rfl) ?_
  refine x_val rfl rfl rfl (v_fieldAddr (off' := 4) Tryz.underlying74 rfl sz72 (by decide) rfl rfl) ?_
  refine x_val rfl rfl rfl (v_load Tryz.underlying72 rfl rfl (at_ro (s := (w, fun _ => True)) (by repeat (first | exact List.Mem.head _ | apply List.Mem.tail)) trivial (hS.cells 4 (by simp)))) ?_
  refine x_val rfl rfl rfl (v_len_slice Tryz.underlying72 rfl) ?_
  refine x_bool rfl rfl rfl (v_lss rfl rfl) ?_
  intro b12 hb12
  refine x_end ?_
  refine t_norm ?_
  refine w_cond rfl (fun hc12 => ?_) (fun hc12 => ?_)
  · simp only [hb12, decide_eq_true_eq, decide_eq_false_iff_not, Bool.and_eq_true, Bool.or_eq_true, Bool.and_eq_false_iff, Bool.or_eq_false_iff, Bool.not_eq_true', Bool.not_eq_false', ne_eq, Decidable.not_not] at hc12
    have hkl : k < es.length := by omega
    obtain ⟨b0, o0, hA0, _, hc0, hin0⟩ := ent_at hS.ent hkl
    obtain ⟨e1, e2, e3, e4, _⟩ := hok _ (List.getElem_mem hkl)
    have e5 := (hok _ (List.getElem_mem hkl)).in.2.2
    have hq := hq (fun h => by rw [h] at hkl; simp at hkl)
    have hdd := hq.2.2.2
    unfold okDay at hdd
    refine w_skip ?_
    refine t_norm ?_
    refine w_seq ?_
    refine w_block ?_
    refine w_seq ?_
    refine rg_text ?_
    refine x_val rfl rfl rfl (v_move rfl) ?_
    refine x_val rfl rfl rfl (v_nilCheck rfl) ?_
    refine x_val rfl rfl rfl (v_fieldAddr (off' := 4) Tryz.underlying74 rfl sz72 (by decide) rfl rfl) ?_
    refine x_val rfl rfl rfl (v_load Tryz.underlying72 rfl rfl (at_ro (s := (w, fun _ => True)) (by repeat (first | exact List.Mem.head _ | apply List.Mem.tail)) trivial (hS.cells 4 (by simp)))) ?_
    refine x_val rfl rfl rfl (v_move rfl) ?_
    refine x_val rfl rfl rfl (v_indexAddr Tryz.underlying72 sz91 (congrArg (fun A => some (Value.slice A es.length c3)) hA0) rfl (by first | omega | (dsimp only; omega)) rfl) ?_
    refine x_val rfl rfl rfl (v_fieldAddr Tryz.underlying91 rfl sz3 (by decide) rfl rfl) ?_
    refine x_val rfl rfl rfl (v_load Tryz.underlying3 rfl rfl (at_ro (s := (w, fun _ => True)) (by repeat (first | exact List.Mem.head _ | apply List.Mem.tail)) trivial (hc0 0 (show 0 < 4 by decide)))) ?_
    refine x_val (v := Value.int .i64 (es[k].fr + ((0 : Nat) : Int))) rfl rfl rfl (by rw [show es[k].fr + ((0 : Nat) : Int) = es[k].fr by omega]; exact v_assign rfl) ?_
    refine x_end ?_
    refine t_norm ?_
    refine w_block ?_
    refine w_loop (σ := RowS × Nat × World) (fun x => x.2.1 ≤ (es[k].to - es[k].fr + 1).toNat ∧ (es[k].sk = true → x.2.1 = 0) ∧ RowT tyIss (newD w (rowO 48 x.1)) x.2.2 x.1 ((heldP p (es.take k)) ++ heldJ p es[k] x.2.1)) (fun x => [(0, .pointer (some ⟨bs, 0, none⟩)), (3, rowV x.1 ((heldP p (es.take k)).length + x.2.1)), (4, Value.int .i64 (k : Nat)), (5, Value.int .i64 (es[k].fr + (x.2.1 : Nat)))]) (fun x => rowO 48 x.1) (fun x => (x.2.2, notOwn (rowO 48 x.1)) :: [(w, fun _ => True)]) (fun x => (es[k].to - es[k].fr + 1).toNat - x.2.1) ((R, 0, ws)) (⟨Nat.zero_le _, fun _ => rfl, by dsimp only; rw [show heldJ p es[k] 0 = [] from rfl, List.append_nil]; exact hT⟩) (l_start (by repeat (first | exact Sub.nil | refine Sub.cons rfl ?_)) (fun _ h => h)) ?_
    rintro ⟨R', j, ws'⟩ ⟨hj, hsk, hT'⟩
    refine w_state ([(0, .pointer (some ⟨bs, 0, none⟩)), (3, rowV R' ((heldP p (es.take k)).length + j)), (4, Value.int .i64 (k : Nat)), (5, Value.int .i64 (es[k].fr + (j : Nat)))]) (rowO 48 R') ((ws', notOwn (rowO 48 R')) :: [(w, fun _ => True)]) ?_
    dsimp only at hj hsk hT'
    have hln : ((heldP p (es.take k)) ++ heldJ p es[k] j).length = (heldP p (es.take k)).length + j := by rw [List.length_append, heldJ_len]
    refine w_seq ?_
    refine w_seq ?_
    refine rg_text ?_
    refine x_val rfl rfl rfl (v_move rfl) ?_
    refine x_val rfl rfl rfl (v_move rfl) ?_
    refine x_val rfl rfl rfl (v_nilCheck rfl) ?_
    refine x_val rfl rfl rfl (v_fieldAddr (off' := 4) Tryz.underlying74 rfl sz72 (by decide) rfl rfl) ?_
    refine x_val rfl rfl rfl (v_load Tryz.underlying72 rfl rfl (at_ro (s := (w, fun _ => True)) (by repeat (first | exact List.Mem.head _ | apply List.Mem.tail)) trivial (hS.cells 4 (by simp)))) ?_
    refine x_val rfl rfl rfl (v_move rfl) ?_
    refine x_val rfl rfl rfl (v_indexAddr Tryz.underlying72 sz91 (congrArg (fun A => some (Value.slice A es.length c3)) hA0) rfl (by first | omega | (dsimp only; omega)) rfl) ?_
    refine x_val rfl rfl rfl (v_fieldAddr Tryz.underlying91 rfl sz3 (by decide) rfl rfl) ?_
    refine x_val rfl rfl rfl (v_load Tryz.underlying3 rfl rfl (at_ro (s := (w, fun _ => True)) (by repeat (first | exact List.Mem.head _ | apply List.Mem.tail)) trivial (hc0 1 (show 1 < 4 by decide)))) ?_
    refine x_bool rfl rfl rfl (v_leq rfl rfl) ?_
    intro b32 hb32
    refine x_val rfl rfl rfl (v_move rfl) ?_
    refine x_if [] rfl rfl rfl rfl rfl (fun hg => by obtain ⟨hg0, _⟩ := hg; subst hg0; (try simp only [List.cons_append, List.nil_append, gvl_nil, gvl_t, gvl_f]); exact v_move rfl) ?_
    refine x_if [] rfl rfl rfl rfl rfl (fun hg => by obtain ⟨hg0, _⟩ := hg; subst hg0; (try simp only [List.cons_append, List.nil_append, gvl_nil, gvl_t, gvl_f]); exact v_nilCheck rfl) ?_
    refine x_if [] rfl rfl rfl rfl rfl (fun hg => by obtain ⟨hg0, _⟩ := hg; subst hg0; (try simp only [List.cons_append, List.nil_append, gvl_nil, gvl_t, gvl_f]); exact v_fieldAddr (off' := 4) Tryz.underlying74 rfl sz72 (by decide) rfl rfl) ?_
    refine x_if [] rfl rfl rfl rfl rfl (fun hg => by obtain ⟨hg0, _⟩ := hg; subst hg0; (try simp only [List.cons_append, List.nil_append, gvl_nil, gvl_t, gvl_f]); exact v_load Tryz.underlying72 rfl rfl (at_ro (s := (w, fun _ => True)) (by repeat (first | exact List.Mem.head _ | apply List.Mem.tail)) trivial (hS.cells 4 (by simp)))) ?_
    refine x_if [] rfl rfl rfl rfl rfl (fun hg => by obtain ⟨hg0, _⟩ := hg; subst hg0; (try simp only [List.cons_append, List.nil_append, gvl_nil, gvl_t, gvl_f]); exact v_move rfl) ?_
    refine x_if [] rfl rfl rfl rfl rfl (fun hg => by obtain ⟨hg0, _⟩ := hg; subst hg0; (try simp only [List.cons_append, List.nil_append, gvl_nil, gvl_t, gvl_f]); exact v_indexAddr Tryz.underlying72 sz91 (congrArg (fun A => some (Value.slice A es.length c3)) hA0) rfl (by first | omega | (dsimp only; omega)) rfl) ?_
    refine x_if [] rfl rfl rfl rfl rfl (fun hg => by obtain ⟨hg0, _⟩ := hg; subst hg0; (try simp only [List.cons_append, List.nil_append, gvl_nil, gvl_t, gvl_f]); exact v_fieldAddr Tryz.underlying91 rfl sz4 (by decide) rfl rfl) ?_
    refine x_ifb [] rfl rfl rfl rfl rfl (fun hg => by obtain ⟨hg0, _⟩ := hg; subst hg0; (try simp only [List.cons_append, List.nil_append, gvl_nil, gvl_t, gvl_f]); exact v_load Tryz.underlying4 rfl rfl (at_ro (s := (w, fun _ => True)) (by repeat (first | exact List.Mem.head _ | apply List.Mem.tail)) trivial (hc0 2 (show 2 < 4 by decide)))) ?_
    intro b41 hb41
    refine x_ifb [] rfl rfl rfl rfl rfl (fun hg => by obtain ⟨hg0, _⟩ := hg; subst hg0; (try simp only [List.cons_append, List.nil_append, gvl_nil, gvl_t, gvl_f]); exact v_not rfl) ?_
    intro b42 hb42
    refine x_bool rfl rfl rfl (v_and rfl rfl) ?_
    intro b43 hb43
    refine x_end ?_
    refine t_norm ?_
    refine w_cond rfl (fun hc43 => ?_) (fun hc43 => ?_)
    · have hc := hc43
      simp only [hb43, hb42, hb41, hb32, Bool.and_eq_true, Bool.not_eq_true', decide_eq_true_eq] at hc
      obtain ⟨hjt, hsf⟩ := hc
      have hdy := day_rng hq (show 0 ≤ (es[k].fr + (j : Nat)) by omega) (by omega)
      refine w_skip ?_
      refine t_norm ?_
      refine w_seq ?_
      refine w_block ?_
      refine rg_draw 17 [(true, 0), (true, 1), (true, 2), (true, 3), (true, 4), (true, 5), (true, 7), (true, 8), (true, 9), (true, 10), (true, 11), (true, 12), (true, 13), (true, 14), (false, 6), (true, 15), (false, 16)] (by kernel_rfl) (by kernel_rfl) ?_
      refine x_val rfl rfl rfl (v_move rfl) ?_
      refine x_val rfl rfl rfl (v_move rfl) ?_
      refine x_val rfl rfl rfl (v_nilCheck rfl) ?_
      refine x_val rfl rfl rfl (v_fieldAddr (off' := 0) Tryz.underlying74 rfl sz26 (by decide) rfl rfl) ?_
      refine x_val rfl rfl rfl (v_loadN (vs := ([Value.int .i64 p.first, Value.int .i64 p.days, Value.slice A1 p.lv.length c1, Value.slice A2 p.st.length c2, Value.slice A3 es.length c3]).take 4) Tryz.underlying26 rfl sz26 rfl (fun j hj => at_ro (s := (w, fun _ => True)) (by repeat (first | exact List.Mem.head _ | apply List.Mem.tail)) trivial (by match j, hj with | 0, _ => exact hS.cells 0 (by simp) | 1, _ => exact hS.cells 1 (by simp) | 2, _ => exact hS.cells 2 (by simp) | 3, _ => exact hS.cells 3 (by simp)))) ?_
      refine x_val rfl rfl rfl (v_move rfl) ?_
      refine x_val rfl rfl rfl (v_move rfl) ?_
      refine x_val rfl rfl rfl (v_nilCheck rfl) ?_
      refine x_val rfl rfl rfl (v_fieldAddr (off' := 4) Tryz.underlying74 rfl sz72 (by decide) rfl rfl) ?_
      refine x_val rfl rfl rfl (v_load Tryz.underlying72 rfl rfl (at_ro (s := (w, fun _ => True)) (by repeat (first | exact List.Mem.head _ | apply List.Mem.tail)) trivial (hS.cells 4 (by simp)))) ?_
      refine x_val rfl rfl rfl (v_move rfl) ?_
      refine x_val rfl rfl rfl (v_indexAddr Tryz.underlying72 sz91 (congrArg (fun A => some (Value.slice A es.length c3)) hA0) rfl (by first | omega | (dsimp only; omega)) rfl) ?_
      refine x_val rfl rfl rfl (v_fieldAddr Tryz.underlying91 rfl sz3 (by decide) rfl rfl) ?_
      refine x_val rfl rfl rfl (v_load Tryz.underlying3 rfl rfl (at_ro (s := (w, fun _ => True)) (by repeat (first | exact List.Mem.head _ | apply List.Mem.tail)) trivial (hc0 3 (show 3 < 4 by decide)))) ?_
      refine x_call (R := fun v wa wb => sliceRd tyI (fun b => wa.heap.size ≤ b) wb v (numsP p (es[k].fr + (j : Nat)))) rfl rfl rfl Tryz.func52 (by kernel_rfl) rfl (fun w1 hw1 => c_Numbers p (es[k].fr + (j : Nat)) w1 (patRd.keep (⟨hS.fst, hS.dys, hS.lvs, hS.sts⟩ : patRd (fun _ => True) w p (.slice A1 p.lv.length c1) (.slice A2 p.st.length c2)) (Kept.later (hw1.base (by simp)))) hq (by omega) (by omega)) ?_
      intro v52 wa wb hwa hwl hR9
      obtain ⟨A8, c8, rfl, -⟩ := id hR9
      obtain ⟨css, hcl, hrow, hrd⟩ := hT'
      rw [hln] at hcl hrow
      refine x_val (v := .agg ([Value.slice A8 (numsP p (es[k].fr + (j : Nat))).length c8, Value.int .i64 es[k].day]).toArray) rfl rfl rfl (v_buildL (places := [(0, 1), (1, 1)]) Tryz.underlying48 zr48 (by kernel_rfl) rfl rfl) ?_
      refine x_buildSliceL (cs := [Value.slice A8 (numsP p (es[k].fr + (j : Nat))).length c8, Value.int .i64 es[k].day]) rfl rfl rfl Tryz.underlying40 sz48 zr48 rfl rfl rfl ?_
      intro p62
      refine x_append (e := 48) [(p62, Obj.cells ([Value.slice A8 (numsP p (es[k].fr + (j : Nat))).length c8, Value.int .i64 es[k].day]).toArray 48)] (l2 := []) R' (len := (heldP p (es.take k)).length + j) (xs := css.flatten) rfl rfl rfl rfl (by simp only [List.append_nil]; rfl) hrow Tryz.underlying40 ap48 rfl rfl (m := 1) (news := [Value.slice A8 (numsP p (es[k].fr + (j : Nat))).length c8, Value.int .i64 es[k].day]) (fun i hi => at_ownL (vs := [Value.slice A8 (numsP p (es[k].fr + (j : Nat))).length c8, Value.int .i64 es[k].day]) (.head _) (by rw [Nat.zero_add]; exact List.getElem?_eq_getElem hi)) rfl (by simp only [maxLen]; omega) (by omega) ?_
      intro R2 hR2
      rw [List.append_nil]
      refine x_val rfl rfl rfl (v_assign rfl) ?_
      refine x_end ?_
      refine b_norm ?_
      refine t_norm ?_
      refine rg_text ?_
      refine x_val rfl rfl rfl (v_move rfl) ?_
      refine x_val rfl rfl rfl (v_addi rfl rfl rfl (by first | omega | (dsimp only; omega))) ?_
      refine x_val rfl rfl rfl (v_assign rfl) ?_
      refine x_end ?_
      refine s_fix (rowO 48 R2) (List.sublist_cons_self _ _) (fun w0 hm0 => ?_)
      have hT2 := snocN (T := tyIss) (D := newD w (rowO 48 R2)) (ws := w0) (x := (⟨numsP p (es[k].fr + (j : Nat)), es[k].day⟩ : Iss)) hln hcl (fun j h1 h2 => tyIss.keep (hrd j h1 h2) (Kept.frz hm0 (List.sublist_cons_self _ _) (by simp))) hR2 ⟨_, rfl, hR9.keep (Kept.made2 (hm0.less (List.sublist_cons_self _ _) (fun _ h => h)) (.head _) (fun k hk p hp he => by have := hwa.lt hp; omega) (hwa.base (by simp)).size), e5⟩
      exact l_norm (x := (R', j, ws')) (μ := fun q : RowS × Nat × World => (es[k].to - es[k].fr + 1).toNat - q.2.1) (R2, j + 1, w0) ⟨by dsimp only; omega, (fun h => by rw [hsf] at h; cases h), by dsimp only; rw [heldJ_succ, ← List.append_assoc]; exact hT2⟩ (by simp only; omega) (by dsimp only; rw [show es[k].fr + ((j + 1 : Nat) : Int) = es[k].fr + (j : Nat) + 1 by omega, show (heldP p (es.take k)).length + (j + 1) = (heldP p (es.take k)).length + j + 1 by omega]; exact (by repeat (first | exact Sub.nil | refine Sub.cons rfl ?_))) (fun w1 h => h.less (List.Sublist.refl _) (fun q hq => by simp at hq ⊢; rcases hq with h | h; (· exact .inl h); simp [h]))
    · have hc := hc43
      simp only [hb43, hb42, hb41, hb32, Bool.and_eq_false_iff, Bool.not_eq_false', decide_eq_false_iff_not] at hc
      have hE : heldE p es[k] = heldJ p es[k] j := by
        unfold heldE
        rcases hsq : es[k].sk with _ | _
        · rw [if_neg Bool.false_ne_true]
          rcases hc with hc | hc
          · congr 1; omega
          · rw [hsq] at hc; cases hc
        · rw [if_pos rfl, hsk hsq]; rfl
      refine w_exit ?_
      refine t_exit ?_
      refine t_exit ?_
      refine b_hit ?_
      refine b_norm ?_
      refine t_norm ?_
      refine rg_text ?_
      refine x_val rfl rfl rfl (v_move rfl) ?_
      refine x_val rfl rfl rfl (v_addi rfl rfl rfl (by first | omega | (dsimp only; omega))) ?_
      refine x_val rfl rfl rfl (v_assign rfl) ?_
      refine x_end ?_
      have hsn := heldP_snoc (p := p) hkl
      rw [hE] at hsn
      exact l_norm (x := (R, k, ws)) (μ := fun q : RowS × Nat × World => es.length - q.2.1) (R', k + 1, ws') ⟨hkl, by dsimp only; rw [hsn]; exact hT'⟩ (by simp only; omega) (by dsimp only; rw [hsn, hln]; exact (by repeat (first | exact Sub.nil | refine Sub.cons rfl ?_))) (fun _ h => h)
  · simp only [hb12, decide_eq_true_eq, decide_eq_false_iff_not, Bool.and_eq_true, Bool.or_eq_true, Bool.and_eq_false_iff, Bool.or_eq_false_iff, Bool.not_eq_true', Bool.not_eq_false', ne_eq, Decidable.not_not] at hc12
    obtain rfl : k = es.length := by omega
    rw [List.take_length] at hT
    refine w_exit ?_
    refine t_exit ?_
    refine t_exit ?_
    refine b_hit ?_
    refine t_norm ?_
    refine w_seq ?_
    refine rg_text ?_
    refine x_val rfl rfl rfl (v_move rfl) ?_
    refine x_val rfl rfl rfl (v_assign rfl) ?_
    refine x_end ?_
    refine t_norm ?_
    refine w_ret ?_
    refine ret1 rfl rfl (fun w' hm => ⟨_, rfl, hm.base (by simp), ?_⟩)
    rw [List.take_length]
    exact (hT.keep (Kept.frz hm (List.Sublist.refl _) (.head _))).rd (e := 48) hm (fun q hq => hq) (fun _ h => h.1) (fun q hq => hm.newer (by simp) hq) rfl

end Go.Proofs.YtaniaihoodgmpaaGreatDoor

namespace Go.Proofs.YtaniaihoodgmpaaGreatDoor
open Go.RowKit Go.PK
set_option linter.unusedVariables false
set_option linter.unusedSimpArgs false
set_option maxHeartbeats 1000000 in
set_option maxRecDepth 100000 in
theorem c_rEnc {v1 v2 v3 : Value} {bs : Nat} (p : Pat) (es : List Ent) (w : World) (hS : SerRd w bs p es v1 v2 v3) (hlen : es.length ≤ 1000) :
    Calls Tryz.prog 22 #[.pointer (some ⟨bs, 0, none⟩)] w fun e w' => e = .returned (.string (encQ p es)) ∧ Later w w' := by
  obtain ⟨A1, c1, rfl, hlc1, hmx1, hB1⟩ := id hS.lvs
  obtain ⟨A2, c2, rfl, hlc2, hmx2, hB2⟩ := id hS.sts
  obtain ⟨A3, c3, rfl, hlc3, hmx3, hB3⟩ := id hS.ent
  refine enter (vs := [.pointer (some ⟨bs, 0, none⟩)]) Tryz.func22 rfl Tryz.ntmps22 rfl ?_
  refine w_seq ?_
  refine rg_text ?_
  refine x_val rfl rfl rfl (v_assign rfl) ?_
  refine x_end ?_
  refine t_norm ?_
  refine w_seq ?_
  refine rg_text ?_
  refine x_val rfl rfl rfl (v_assign rfl) ?_
  refine x_end ?_
  refine t_norm ?_
  refine w_seq ?_
  refine w_seq ?_
  refine rg_text ?_
  refine x_val rfl rfl rfl (v_assign rfl) ?_
  refine x_end ?_
  refine t_norm ?_
  refine w_block ?_
  refine w_loop (σ := Nat × RowS) (fun x => x.1 ≤ es.length ∧ rowOK 1 x.2 (x.1 * 4) ((entsI (es.take x.1)).map (Value.int .i64))) (fun x => [(0, .pointer (some ⟨bs, 0, none⟩)), (3, rowV x.2 (x.1 * 4)), (4, Value.int .i64 (x.1 : Nat))]) (fun x => rowO 3 x.2) (fun x => [(w, fun _ => True)]) (fun x => es.length - x.1) ((0, none)) (⟨Nat.zero_le _, rowOK_nil⟩) (l_start (by repeat (first | exact Sub.nil | refine Sub.cons rfl ?_)) (fun _ h => h)) ?_
  rintro ⟨k, R⟩ ⟨hk, hR⟩
  refine w_state ([(0, .pointer (some ⟨bs, 0, none⟩)), (3, rowV R (k * 4)), (4, Value.int .i64 (k : Nat))]) (rowO 3 R) ([(w, fun _ => True)]) ?_
  dsimp only at hk hR
  refine w_seq ?_
  refine w_seq ?_
  refine rg_text ?_
  refine x_val rfl rfl rfl (v_move rfl) ?_
  refine x_val rfl rfl rfl (v_move rfl) ?_
  refine x_val rfl rfl rfl (v_nilCheck rfl) ?_
  refine x_val rfl rfl rfl (v_fieldAddr (off' := 4) Tryz.underlying74 rfl sz72 (by decide) rfl rfl) ?_
  refine x_val rfl rfl rfl (v_load Tryz.underlying72 rfl rfl (at_ro (s := (w, fun _ => True)) (by repeat (first | exact List.Mem.head _ | apply List.Mem.tail)) trivial (hS.cells 4 (by simp)))) ?_
  refine x_val rfl rfl rfl (v_len_slice Tryz.underlying72 rfl) ?_
  refine x_bool rfl rfl rfl (v_lss rfl rfl) ?_
  intro b12 hb12
  refine x_end ?_
  refine t_norm ?_
  refine w_cond rfl (fun hc12 => ?_) (fun hc12 => ?_)
  · simp only [hb12, decide_eq_true_eq, decide_eq_false_iff_not, Bool.and_eq_true, Bool.or_eq_true, Bool.and_eq_false_iff, Bool.or_eq_false_iff, Bool.not_eq_true', Bool.not_eq_false', ne_eq, Decidable.not_not] at hc12
    have hkl : k < es.length := by omega
    obtain ⟨b0, o0, hA0, _, hc0, hin0⟩ := ent_at hS.ent hkl
    refine w_skip ?_
    refine t_norm ?_
    refine w_seq ?_
    refine w_block ?_
    refine w_seq ?_
    refine rg_text ?_
    refine x_val rfl rfl rfl (v_assign rfl) ?_
    refine x_end ?_
    refine t_norm ?_
    refine w_seq_cut (σ := Int) (fun z => z = if es[k].sk then 1 else 0) (fun z => [(0, .pointer (some ⟨bs, 0, none⟩)), (3, rowV R (k * 4)), (4, Value.int .i64 (k : Nat)), (5, Value.int .i64 z)]) (fun z => rowO 3 R) (fun z => [(w, fun _ => True)]) ?_ ?_
    · refine w_seq ?_
      refine rg_text ?_
      refine x_val rfl rfl rfl (v_move rfl) ?_
      refine x_val rfl rfl rfl (v_nilCheck rfl) ?_
      refine x_val rfl rfl rfl (v_fieldAddr (off' := 4) Tryz.underlying74 rfl sz72 (by decide) rfl rfl) ?_
      refine x_val rfl rfl rfl (v_load Tryz.underlying72 rfl rfl (at_ro (s := (w, fun _ => True)) (by repeat (first | exact List.Mem.head _ | apply List.Mem.tail)) trivial (hS.cells 4 (by simp)))) ?_
      refine x_val rfl rfl rfl (v_move rfl) ?_
      refine x_val rfl rfl rfl (v_indexAddr Tryz.underlying72 sz91 (congrArg (fun A => some (Value.slice A es.length c3)) hA0) rfl (by first | omega | (dsimp only; omega)) rfl) ?_
      refine x_val rfl rfl rfl (v_fieldAddr Tryz.underlying91 rfl sz4 (by decide) rfl rfl) ?_
      refine x_bool rfl rfl rfl (v_load Tryz.underlying4 rfl rfl (at_ro (s := (w, fun _ => True)) (by repeat (first | exact List.Mem.head _ | apply List.Mem.tail)) trivial (hc0 2 (show 2 < 4 by decide)))) ?_
      intro b22 hb22
      refine x_end ?_
      refine t_norm ?_
      refine w_cond rfl (fun hc22 => ?_) (fun hc22 => ?_)
      · have hsk : es[k].sk = true := hb22.symm.trans hc22
        refine rg_text ?_
        refine x_val rfl rfl rfl (v_assign rfl) ?_
        refine x_end ?_
        exact c_norm 1 (by rw [hsk]; rfl) (by repeat (first | exact Sub.nil | refine Sub.cons rfl ?_)) (fun _ h => h)
      · have hsk : es[k].sk = false := hb22.symm.trans hc22
        refine w_skip ?_
        exact c_norm 0 (by rw [hsk]; rfl) (by repeat (first | exact Sub.nil | refine Sub.cons rfl ?_)) (fun _ h => h)
    · rintro z hz
      refine w_state ([(0, .pointer (some ⟨bs, 0, none⟩)), (3, rowV R (k * 4)), (4, Value.int .i64 (k : Nat)), (5, Value.int .i64 z)]) (rowO 3 R) ([(w, fun _ => True)]) ?_
      refine rg_draw 27 [(true, 0), (true, 1), (true, 2), (true, 3), (true, 4), (true, 5), (true, 6), (true, 7), (true, 8), (true, 9), (true, 10), (true, 11), (true, 12), (true, 13), (true, 14), (true, 15), (true, 16), (true, 17), (true, 18), (true, 19), (true, 20), (true, 21), (true, 22), (true, 23), (true, 24), (true, 25), (false, 26)] (by kernel_rfl) (by kernel_rfl) ?_
      refine x_val rfl rfl rfl (v_move rfl) ?_
      refine x_val rfl rfl rfl (v_move rfl) ?_
      refine x_val rfl rfl rfl (v_nilCheck rfl) ?_
      refine x_val rfl rfl rfl (v_fieldAddr Tryz.underlying74 rfl sz72 (by decide) rfl rfl) ?_
      refine x_val rfl rfl rfl (v_load Tryz.underlying72 rfl rfl (at_ro (s := (w, fun _ => True)) (by repeat (first | exact List.Mem.head _ | apply List.Mem.tail)) trivial (hS.cells 4 (by simp)))) ?_
      refine x_val rfl rfl rfl (v_move rfl) ?_
      refine x_val rfl rfl rfl (v_indexAddr Tryz.underlying72 sz91 (congrArg (fun A => some (Value.slice A es.length c3)) hA0) rfl (by first | omega | (dsimp only; omega)) rfl) ?_
      refine x_val rfl rfl rfl (v_fieldAddr Tryz.underlying91 rfl sz3 (by decide) rfl rfl) ?_
      refine x_val rfl rfl rfl (v_load Tryz.underlying3 rfl rfl (at_ro (s := (w, fun _ => True)) (by repeat (first | exact List.Mem.head _ | apply List.Mem.tail)) trivial (hc0 0 (show 0 < 4 by decide)))) ?_
      refine x_val rfl rfl rfl (v_move rfl) ?_
      refine x_val rfl rfl rfl (v_nilCheck rfl) ?_
      refine x_val rfl rfl rfl (v_fieldAddr Tryz.underlying74 rfl sz72 (by decide) rfl rfl) ?_
      refine x_val rfl rfl rfl (v_load Tryz.underlying72 rfl rfl (at_ro (s := (w, fun _ => True)) (by repeat (first | exact List.Mem.head _ | apply List.Mem.tail)) trivial (hS.cells 4 (by simp)))) ?_
      refine x_val rfl rfl rfl (v_move rfl) ?_
      refine x_val rfl rfl rfl (v_indexAddr Tryz.underlying72 sz91 (congrArg (fun A => some (Value.slice A es.length c3)) hA0) rfl (by first | omega | (dsimp only; omega)) rfl) ?_
      refine x_val rfl rfl rfl (v_fieldAddr Tryz.underlying91 rfl sz3 (by decide) rfl rfl) ?_
      refine x_val rfl rfl rfl (v_load Tryz.underlying3 rfl rfl (at_ro (s := (w, fun _ => True)) (by repeat (first | exact List.Mem.head _ | apply List.Mem.tail)) trivial (hc0 1 (show 1 < 4 by decide)))) ?_
      refine x_val rfl rfl rfl (v_move rfl) ?_
      refine x_val rfl rfl rfl (v_move rfl) ?_
      refine x_val rfl rfl rfl (v_nilCheck rfl) ?_
      refine x_val rfl rfl rfl (v_fieldAddr Tryz.underlying74 rfl sz72 (by decide) rfl rfl) ?_
      refine x_val rfl rfl rfl (v_load Tryz.underlying72 rfl rfl (at_ro (s := (w, fun _ => True)) (by repeat (first | exact List.Mem.head _ | apply List.Mem.tail)) trivial (hS.cells 4 (by simp)))) ?_
      refine x_val rfl rfl rfl (v_move rfl) ?_
      refine x_val rfl rfl rfl (v_indexAddr Tryz.underlying72 sz91 (congrArg (fun A => some (Value.slice A es.length c3)) hA0) rfl (by first | omega | (dsimp only; omega)) rfl) ?_
      refine x_val rfl rfl rfl (v_fieldAddr Tryz.underlying91 rfl sz3 (by decide) rfl rfl) ?_
      refine x_val rfl rfl rfl (v_load Tryz.underlying3 rfl rfl (at_ro (s := (w, fun _ => True)) (by repeat (first | exact List.Mem.head _ | apply List.Mem.tail)) trivial (hc0 3 (show 3 < 4 by decide)))) ?_
      refine x_buildSliceL (cs := [Value.int .i64 es[k].fr, Value.int .i64 es[k].to, Value.int .i64 z, Value.int .i64 es[k].day]) rfl rfl rfl Tryz.underlying22 sz3 zr3 rfl rfl rfl ?_
      intro p49
      refine x_append (e := 3) [(p49, Obj.cells ([Value.int .i64 es[k].fr, Value.int .i64 es[k].to, Value.int .i64 z, Value.int .i64 es[k].day]).toArray 3 (0, 0))] (l2 := []) R (len := k * 4) (xs := (entsI (es.take k)).map (Value.int .i64)) rfl rfl rfl rfl (by simp only [List.append_nil]; rfl) hR Tryz.underlying22 ap3 rfl rfl (m := 4) (news := [Value.int .i64 es[k].fr, Value.int .i64 es[k].to, Value.int .i64 z, Value.int .i64 es[k].day]) (fun i hi => at_ownL (vs := [Value.int .i64 es[k].fr, Value.int .i64 es[k].to, Value.int .i64 z, Value.int .i64 es[k].day]) (.head _) (by rw [Nat.zero_add]; exact List.getElem?_eq_getElem hi)) rfl (by simp only [maxLen]; omega) (by omega) ?_
      intro R' hR'
      rw [List.append_nil]
      refine x_val rfl rfl rfl (v_assign rfl) ?_
      refine x_end ?_
      refine b_norm ?_
      refine t_norm ?_
      refine rg_text ?_
      refine x_val rfl rfl rfl (v_move rfl) ?_
      refine x_val rfl rfl rfl (v_addi rfl rfl rfl (by first | omega | (dsimp only; omega))) ?_
      refine x_val rfl rfl rfl (v_assign rfl) ?_
      refine x_end ?_
      exact l_norm (x := (k, R)) (μ := fun q : Nat × RowS => es.length - q.1) (k + 1, R') ⟨by dsimp only; omega, by dsimp only; rw [entsI_snoc hkl, List.map_append, show (k + 1) * 4 = k * 4 + 4 by omega]; subst hz; exact hR'⟩ (by simp only; omega) (by dsimp only; rw [show (k + 1) * 4 = k * 4 + 4 by omega]; exact (by repeat (first | exact Sub.nil | refine Sub.cons rfl ?_))) (fun w1 h => h.less ((List.Sublist.refl _).cons _) (fun _ h => h))
  · simp only [hb12, decide_eq_true_eq, decide_eq_false_iff_not, Bool.and_eq_true, Bool.or_eq_true, Bool.and_eq_false_iff, Bool.or_eq_false_iff, Bool.not_eq_true', Bool.not_eq_false', ne_eq, Decidable.not_not] at hc12
    obtain rfl : k = es.length := by omega
    rw [List.take_length] at hR
    have hin9 := entsI_in (rdE_in hS.ent)
    have hln9 := entsI_len es
    refine w_exit ?_
    refine t_exit ?_
    refine t_exit ?_
    refine b_hit ?_
    refine t_norm ?_
    refine w_seq ?_
    refine rg_text ?_
    refine x_val rfl rfl rfl (v_move rfl) ?_
    refine x_val rfl rfl rfl (v_nilCheck rfl) ?_
    refine x_val rfl rfl rfl (v_fieldAddr (off' := 0) Tryz.underlying74 rfl sz26 (by decide) rfl rfl) ?_
    refine x_val rfl rfl rfl (v_loadN (vs := ([Value.int .i64 p.first, Value.int .i64 p.days, Value.slice A1 p.lv.length c1, Value.slice A2 p.st.length c2, Value.slice A3 es.length c3]).take 4) Tryz.underlying26 rfl sz26 rfl (fun j hj => at_ro (s := (w, fun _ => True)) (by repeat (first | exact List.Mem.head _ | apply List.Mem.tail)) trivial (by match j, hj with | 0, _ => exact hS.cells 0 (by simp) | 1, _ => exact hS.cells 1 (by simp) | 2, _ => exact hS.cells 2 (by simp) | 3, _ => exact hS.cells 3 (by simp)))) ?_
    refine x_callv rfl rfl rfl Tryz.func25 (by kernel_rfl) rfl (fun w1 hw1 => c_rWrite p w1 (patRd.keep (⟨hS.fst, hS.dys, hS.lvs, hS.sts⟩ : patRd (fun _ => True) w p (.slice A1 p.lv.length c1) (.slice A2 p.st.length c2)) (Kept.later (hw1.base (by simp))))) ?_
    refine x_val rfl rfl rfl (v_move rfl) ?_
    refine x_callv (v := Value.string ⟨(intsG (entsI es)).toArray⟩) rfl rfl rfl Tryz.func26 (by kernel_rfl) rfl (fun w1 hw1 => c_rInts w1 (rowI_rd (D := fun _ => True) (e := 3) hR hln9.symm hin9 hw1 (fun q hq => hq) (fun _ _ => trivial)) (by rw [hln9]; omega)) ?_
    refine x_buildSliceL (cs := [Value.string (writeQ p), Value.string ⟨(intsG (entsI es)).toArray⟩]) rfl rfl rfl Tryz.underlying55 sz9 zr9 rfl rfl rfl ?_
    intro p58
    have hz1 : (writeQ p).size ≤ 2000000 := by
      by_cases hq : rightQ p
      · have := wr_sz hq; omega
      · unfold writeQ; rw [if_neg hq]; decide
    have hz2 : (⟨(intsG (entsI es)).toArray⟩ : ByteArray).size ≤ 2000000 := by
      rw [mk_size, ← intsT_all]
      have := intsT_len (l := entsI es) (by omega) hin9 _ (Nat.le_refl _)
      omega
    refine x_callv (v := Value.string (encQ p es)) rfl rfl rfl Tryz.func24 (by kernel_rfl) rfl (fun w1 hw1 => c_rPack (l := [writeQ p, ⟨(intsG (entsI es)).toArray⟩]) (D := fun _ => True) w1 (row1_rd (T := tyStr) (e := 9) (r := some (p58, [writeQ p, ⟨(intsG (entsI es)).toArray⟩].map Value.string, 2)) Value.string rfl (rowOK_lit rfl (by simp [maxLen])) rfl (fun D9 w9 s hs => ⟨rfl, by unfold okS; rcases List.mem_cons.1 hs with rfl | hs; (· omega); rw [List.mem_singleton.1 hs]; omega⟩) hw1 (fun q hq => by rw [show q = _ from List.mem_singleton.1 hq]; exact .head _) (fun _ _ => trivial)) (by simp) (fun s hs => by rcases List.mem_cons.1 hs with rfl | hs; (· exact hz1); rw [List.mem_singleton.1 hs]; exact hz2)) ?_
    refine x_val rfl rfl rfl (v_assign rfl) ?_
    refine x_end ?_
    refine t_norm ?_
    refine w_ret ?_
    refine ret1 rfl rfl (fun w' hm => ⟨?_, hm.base (by simp)⟩)
    rfl
theorem dly_snoc {p : Pat} {es : List Ent} {k : Nat} (h : k < es.length) : dlyP p (es.take (k + 1)) = if es[k].sk then dlyP p (es.take k) else (max 0 (min 10000 (es[k].day - p.first - es[k].fr * p.days)), es[k].to) := by
  unfold dlyP
  rw [List.take_succ_eq_append_getElem h, List.reverse_append, List.reverse_singleton, List.singleton_append, List.find?_cons]
  cases hs : es[k].sk with
  | true => rfl
  | false =>
    rw [if_neg Bool.false_ne_true]
    show (dlyE p es[k], es[k].to) = _
    unfold dlyE
    rw [show min (max (es[k].day - (p.first + es[k].fr * p.days)) 0) 10000 = max 0 (min 10000 (es[k].day - p.first - es[k].fr * p.days)) by omega]
set_option maxHeartbeats 2000000 in
set_option maxRecDepth 100000 in
theorem c_rMissing {v1 v2 v3 : Value} {bs : Nat} (p : Pat) (es : List Ent) (day : Int) (w : World) (hS : SerRd w bs p es v1 v2 v3) (hsrt : srt es) (hlen : es.length ≤ 100000) (hday : in64 day) :
    Calls Tryz.prog 18 #[.pointer (some ⟨bs, 0, none⟩), .int .i64 day] w fun e w' => ∃ v, e = .returned v ∧ Later w w' ∧ sliceRd tyIss (fun b => w.heap.size ≤ b) w' v (missP p es day) := by
  obtain ⟨A1, c1, rfl, hlc1, hmx1, hB1⟩ := id hS.lvs
  obtain ⟨A2, c2, rfl, hlc2, hmx2, hB2⟩ := id hS.sts
  obtain ⟨A3, c3, rfl, hlc3, hmx3, hB3⟩ := id hS.ent
  refine enter (vs := [.pointer (some ⟨bs, 0, none⟩), .int .i64 day]) Tryz.func18 rfl Tryz.ntmps18 rfl ?_
  refine w_seq ?_
  refine rg_text ?_
  refine x_val rfl rfl rfl (v_assign rfl) ?_
  refine x_end ?_
  refine t_norm ?_
  refine w_seq ?_
  refine rg_text ?_
  refine x_val rfl rfl rfl (v_move rfl) ?_
  refine x_val rfl rfl rfl (v_nilCheck rfl) ?_
  refine x_val rfl rfl rfl (v_fieldAddr (off' := 0) Tryz.underlying74 rfl sz26 (by decide) rfl rfl) ?_
  refine x_val rfl rfl rfl (v_loadN (vs := ([Value.int .i64 p.first, Value.int .i64 p.days, Value.slice A1 p.lv.length c1, Value.slice A2 p.st.length c2, Value.slice A3 es.length c3]).take 4) Tryz.underlying26 rfl sz26 rfl (fun j hj => at_ro (s := (w, fun _ => True)) (by repeat (first | exact List.Mem.head _ | apply List.Mem.tail)) trivial (by match j, hj with | 0, _ => exact hS.cells 0 (by simp) | 1, _ => exact hS.cells 1 (by simp) | 2, _ => exact hS.cells 2 (by simp) | 3, _ => exact hS.cells 3 (by simp)))) ?_
  refine x_callb rfl rfl rfl Tryz.func35 (by kernel_rfl) rfl (fun w1 hw1 => c_rRight p w1 (patRd.keep (⟨hS.fst, hS.dys, hS.lvs, hS.sts⟩ : patRd (fun _ => True) w p (.slice A1 p.lv.length c1) (.slice A2 p.st.length c2)) (Kept.later (hw1.base (by simp))))) ?_
  intro b18 hb18
  refine x_val rfl rfl rfl (v_assign rfl) ?_
  refine x_end ?_
  refine t_norm ?_
  refine w_seq ?_
  refine w_seq ?_
  refine rg_text ?_
  refine x_val rfl rfl rfl (v_move rfl) ?_
  refine x_bool rfl rfl rfl (v_not rfl) ?_
  intro b20 hb20
  refine x_end ?_
  refine t_norm ?_
  refine w_cond rfl (fun hc20 => ?_) (fun hc20 => ?_)
  · have hno : ¬rightQ p := fun h => by rw [hb20, hb18, decide_eq_true h] at hc20; cases hc20
    refine w_seq ?_
    refine rg_text ?_
    refine x_val rfl rfl rfl (v_assign rfl) ?_
    refine x_end ?_
    refine t_norm ?_
    refine w_ret ?_
    refine t_ret ?_
    refine ret1 rfl rfl (fun w' hm => ⟨_, rfl, hm.base (by simp), ?_⟩)
    unfold missP; rw [if_neg hno]
    exact ⟨none, 0, rfl, Nat.le_refl _, Nat.zero_le _, fun h => absurd h (Nat.lt_irrefl 0)⟩
  · have hq : rightQ p := by rw [hb20, hb18] at hc20; simpa using hc20
    have hff := hq.2.2.2
    unfold okDay at hff
    refine w_skip ?_
    refine t_norm ?_
    refine w_seq ?_
    refine rg_text ?_
    refine x_val rfl rfl rfl (v_assign rfl) ?_
    refine x_end ?_
    refine t_norm ?_
    refine w_seq ?_
    refine rg_text ?_
    refine x_val rfl rfl rfl (v_assign rfl) ?_
    refine x_end ?_
    refine t_norm ?_
    refine w_seq ?_
    refine w_seq ?_
    refine rg_text ?_
    refine x_val rfl rfl rfl (v_assign rfl) ?_
    refine x_end ?_
    refine t_norm ?_
    refine w_block ?_
    refine w_loop (σ := Nat) (fun k => k ≤ es.length) (fun k => [(0, .pointer (some ⟨bs, 0, none⟩)), (1, Value.int .i64 day), (6, Value.int .i64 (dlyP p (es.take k)).1), (7, Value.int .i64 (dlyP p (es.take k)).2), (8, Value.int .i64 (k : Nat))]) (fun k => []) (fun k => [(w, fun _ => True)]) (fun k => es.length - k) (0) (Nat.zero_le _) (l_start (by repeat (first | exact Sub.nil | refine Sub.cons rfl ?_)) (fun _ h => h)) ?_
    rintro k hk
    refine w_state ([(0, .pointer (some ⟨bs, 0, none⟩)), (1, Value.int .i64 day), (6, Value.int .i64 (dlyP p (es.take k)).1), (7, Value.int .i64 (dlyP p (es.take k)).2), (8, Value.int .i64 (k : Nat))]) ([]) ([(w, fun _ => True)]) ?_
    refine w_seq ?_
    refine w_seq ?_
    refine rg_text ?_
    refine x_val rfl rfl rfl (v_move rfl) ?_
    refine x_val rfl rfl rfl (v_move rfl) ?_
    refine x_val rfl rfl rfl (v_nilCheck rfl) ?_
    refine x_val rfl rfl rfl (v_fieldAddr (off' := 4) Tryz.underlying74 rfl sz72 (by decide) rfl rfl) ?_
    refine x_val rfl rfl rfl (v_load Tryz.underlying72 rfl rfl (at_ro (s := (w, fun _ => True)) (by repeat (first | exact List.Mem.head _ | apply List.Mem.tail)) trivial (hS.cells 4 (by simp)))) ?_
    refine x_val rfl rfl rfl (v_len_slice Tryz.underlying72 rfl) ?_
    refine x_bool rfl rfl rfl (v_lss rfl rfl) ?_
    intro b27 hb27
    refine x_end ?_
    refine t_norm ?_
    refine w_cond rfl (fun hc27 => ?_) (fun hc27 => ?_)
    · simp only [hb27, decide_eq_true_eq, decide_eq_false_iff_not, Bool.and_eq_true, Bool.or_eq_true, Bool.and_eq_false_iff, Bool.or_eq_false_iff, Bool.not_eq_true', Bool.not_eq_false', ne_eq, Decidable.not_not] at hc27
      have hkl : k < es.length := by omega
      obtain ⟨b0, o0, hA0, _, hc0, hin0⟩ := ent_at hS.ent hkl
      obtain ⟨e1, e2, e3, e4, e5⟩ := hsrt.2 _ (List.getElem_mem hkl)
      unfold okDay at e5
      have hdy := day_rng hq e1 (by omega)
      have hsn := dly_snoc (p := p) hkl
      refine w_skip ?_
      refine t_norm ?_
      refine w_seq ?_
      refine w_block ?_
      refine w_seq ?_
      refine rg_text ?_
      refine x_val rfl rfl rfl (v_move rfl) ?_
      refine x_val rfl rfl rfl (v_nilCheck rfl) ?_
      refine x_val rfl rfl rfl (v_fieldAddr (off' := 4) Tryz.underlying74 rfl sz72 (by decide) rfl rfl) ?_
      refine x_val rfl rfl rfl (v_load Tryz.underlying72 rfl rfl (at_ro (s := (w, fun _ => True)) (by repeat (first | exact List.Mem.head _ | apply List.Mem.tail)) trivial (hS.cells 4 (by simp)))) ?_
      refine x_val rfl rfl rfl (v_move rfl) ?_
      refine x_val rfl rfl rfl (v_indexAddr Tryz.underlying72 sz91 (congrArg (fun A => some (Value.slice A es.length c3)) hA0) rfl (by first | omega | (dsimp only; omega)) rfl) ?_
      refine x_val rfl rfl rfl (v_fieldAddr Tryz.underlying91 rfl sz4 (by decide) rfl rfl) ?_
      refine x_bool rfl rfl rfl (v_load Tryz.underlying4 rfl rfl (at_ro (s := (w, fun _ => True)) (by repeat (first | exact List.Mem.head _ | apply List.Mem.tail)) trivial (hc0 2 (show 2 < 4 by decide)))) ?_
      intro b37 hb37
      refine x_bool rfl rfl rfl (v_not rfl) ?_
      intro b38 hb38
      refine x_end ?_
      refine t_norm ?_
      refine w_cond rfl (fun hc38 => ?_) (fun hc38 => ?_)
      · have hsk : es[k].sk = false := by rw [hb38, hb37] at hc38; simpa using hc38
        rw [hsk, if_neg Bool.false_ne_true] at hsn
        refine w_seq ?_
        refine rg_draw 32 [(true, 0), (true, 1), (true, 2), (true, 3), (true, 4), (true, 5), (true, 6), (true, 7), (true, 8), (true, 9), (true, 10), (true, 11), (true, 12), (true, 13), (true, 14), (true, 15), (true, 16), (true, 17), (true, 18), (true, 19), (true, 20), (true, 21), (true, 22), (true, 23), (true, 24), (true, 25), (true, 26), (true, 27), (true, 28), (true, 29), (true, 30), (true, 31)] (by kernel_rfl) (by kernel_rfl) ?_
        refine x_val rfl rfl rfl (v_move rfl) ?_
        refine x_val rfl rfl rfl (v_nilCheck rfl) ?_
        refine x_val rfl rfl rfl (v_fieldAddr (off' := 4) Tryz.underlying74 rfl sz72 (by decide) rfl rfl) ?_
        refine x_val rfl rfl rfl (v_load Tryz.underlying72 rfl rfl (at_ro (s := (w, fun _ => True)) (by repeat (first | exact List.Mem.head _ | apply List.Mem.tail)) trivial (hS.cells 4 (by simp)))) ?_
        refine x_val rfl rfl rfl (v_move rfl) ?_
        refine x_val rfl rfl rfl (v_indexAddr Tryz.underlying72 sz91 (congrArg (fun A => some (Value.slice A es.length c3)) hA0) rfl (by first | omega | (dsimp only; omega)) rfl) ?_
        refine x_val rfl rfl rfl (v_fieldAddr Tryz.underlying91 rfl sz3 (by decide) rfl rfl) ?_
        refine x_val rfl rfl rfl (v_load Tryz.underlying3 rfl rfl (at_ro (s := (w, fun _ => True)) (by repeat (first | exact List.Mem.head _ | apply List.Mem.tail)) trivial (hc0 3 (show 3 < 4 by decide)))) ?_
        refine x_val rfl rfl rfl (v_move rfl) ?_
        refine x_val rfl rfl rfl (v_nilCheck rfl) ?_
        refine x_val rfl rfl rfl (v_fieldAddr (off' := 0) Tryz.underlying74 rfl sz26 (by decide) rfl rfl) ?_
        refine x_val rfl rfl rfl (v_fieldAddr (off' := 0) Tryz.underlying26 rfl sz3 (by decide) rfl rfl) ?_
        refine x_val rfl rfl rfl (v_load Tryz.underlying3 rfl rfl (at_ro (s := (w, fun _ => True)) (by repeat (first | exact List.Mem.head _ | apply List.Mem.tail)) trivial (hS.cells 0 (by simp)))) ?_
        refine x_val rfl rfl rfl (v_subi rfl rfl rfl (by first | omega | (dsimp only; omega))) ?_
        refine x_val rfl rfl rfl (v_move rfl) ?_
        refine x_val rfl rfl rfl (v_nilCheck rfl) ?_
        refine x_val rfl rfl rfl (v_fieldAddr (off' := 4) Tryz.underlying74 rfl sz72 (by decide) rfl rfl) ?_
        refine x_val rfl rfl rfl (v_load Tryz.underlying72 rfl rfl (at_ro (s := (w, fun _ => True)) (by repeat (first | exact List.Mem.head _ | apply List.Mem.tail)) trivial (hS.cells 4 (by simp)))) ?_
        refine x_val rfl rfl rfl (v_move rfl) ?_
        refine x_val rfl rfl rfl (v_indexAddr Tryz.underlying72 sz91 (congrArg (fun A => some (Value.slice A es.length c3)) hA0) rfl (by first | omega | (dsimp only; omega)) rfl) ?_
        refine x_val rfl rfl rfl (v_fieldAddr Tryz.underlying91 rfl sz3 (by decide) rfl rfl) ?_
        refine x_val rfl rfl rfl (v_load Tryz.underlying3 rfl rfl (at_ro (s := (w, fun _ => True)) (by repeat (first | exact List.Mem.head _ | apply List.Mem.tail)) trivial (hc0 0 (show 0 < 4 by decide)))) ?_
        refine x_val rfl rfl rfl (v_move rfl) ?_
        refine x_val rfl rfl rfl (v_nilCheck rfl) ?_
        refine x_val rfl rfl rfl (v_fieldAddr (off' := 0) Tryz.underlying74 rfl sz26 (by decide) rfl rfl) ?_
        refine x_val rfl rfl rfl (v_fieldAddr (off' := 1) Tryz.underlying26 rfl sz3 (by decide) rfl rfl) ?_
        refine x_val rfl rfl rfl (v_load Tryz.underlying3 rfl rfl (at_ro (s := (w, fun _ => True)) (by repeat (first | exact List.Mem.head _ | apply List.Mem.tail)) trivial (hS.cells 1 (by simp)))) ?_
        refine x_val rfl rfl rfl (v_muli rfl rfl rfl (by first | omega | (dsimp only; omega))) ?_
        refine x_val rfl rfl rfl (v_subi rfl rfl rfl (by first | omega | (dsimp only; omega))) ?_
        refine x_val rfl rfl rfl (v_min rfl rfl) ?_
        refine x_val rfl rfl rfl (v_max rfl rfl) ?_
        refine x_val rfl rfl rfl (v_assign rfl) ?_
        refine x_end ?_
        refine t_norm ?_
        refine rg_text ?_
        refine x_val rfl rfl rfl (v_move rfl) ?_
        refine x_val rfl rfl rfl (v_nilCheck rfl) ?_
        refine x_val rfl rfl rfl (v_fieldAddr (off' := 4) Tryz.underlying74 rfl sz72 (by decide) rfl rfl) ?_
        refine x_val rfl rfl rfl (v_load Tryz.underlying72 rfl rfl (at_ro (s := (w, fun _ => True)) (by repeat (first | exact List.Mem.head _ | apply List.Mem.tail)) trivial (hS.cells 4 (by simp)))) ?_
        refine x_val rfl rfl rfl (v_move rfl) ?_
        refine x_val rfl rfl rfl (v_indexAddr Tryz.underlying72 sz91 (congrArg (fun A => some (Value.slice A es.length c3)) hA0) rfl (by first | omega | (dsimp only; omega)) rfl) ?_
        refine x_val rfl rfl rfl (v_fieldAddr Tryz.underlying91 rfl sz3 (by decide) rfl rfl) ?_
        refine x_val rfl rfl rfl (v_load Tryz.underlying3 rfl rfl (at_ro (s := (w, fun _ => True)) (by repeat (first | exact List.Mem.head _ | apply List.Mem.tail)) trivial (hc0 1 (show 1 < 4 by decide)))) ?_
        refine x_val rfl rfl rfl (v_assign rfl) ?_
        refine x_end ?_
        refine b_norm ?_
        refine t_norm ?_
        refine rg_text ?_
        refine x_val rfl rfl rfl (v_move rfl) ?_
        refine x_val rfl rfl rfl (v_addi rfl rfl rfl (by first | omega | (dsimp only; omega))) ?_
        refine x_val rfl rfl rfl (v_assign rfl) ?_
        refine x_end ?_
        exact l_norm (k + 1) hkl (by omega) (by rw [hsn]; exact (by repeat (first | exact Sub.nil | refine Sub.cons rfl ?_))) (fun _ h => h)
      · have hsk : es[k].sk = true := by rw [hb38, hb37] at hc38; simpa using hc38
        rw [hsk, if_pos rfl] at hsn
        refine w_skip ?_
        refine b_norm ?_
        refine t_norm ?_
        refine rg_text ?_
        refine x_val rfl rfl rfl (v_move rfl) ?_
        refine x_val rfl rfl rfl (v_addi rfl rfl rfl (by first | omega | (dsimp only; omega))) ?_
        refine x_val rfl rfl rfl (v_assign rfl) ?_
        refine x_end ?_
        exact l_norm (k + 1) hkl (by omega) (by rw [hsn]; exact (by repeat (first | exact Sub.nil | refine Sub.cons rfl ?_))) (fun _ h => h)
    · simp only [hb27, decide_eq_true_eq, decide_eq_false_iff_not, Bool.and_eq_true, Bool.or_eq_true, Bool.and_eq_false_iff, Bool.or_eq_false_iff, Bool.not_eq_true', Bool.not_eq_false', ne_eq, Decidable.not_not] at hc27
      obtain rfl : k = es.length := by omega
      rw [List.take_length]
      obtain ⟨⟨hd0, hd1⟩, hl0, hl1⟩ := dlyP_rng p hsrt.2
      have hmis0 : ([] : List Iss) ++ missR p es (dlyP p es).1 (dlyP p es).2 day (100001 - 0) (0 : Nat) 0 = missP p es day := by
        unfold missP
        rw [if_pos hq, List.nil_append]
        exact miss_same hq.2.2.1.1 hd0 _ _ es _ _ hsrt (fun e he => by have h1 := hsrt.2 e he; have h2 := h1.1; have h3 := h1.le; omega) (fun _ _ => rfl) (by omega) (Nat.le_refl _)
      refine w_exit ?_
      refine t_exit ?_
      refine t_exit ?_
      refine b_hit ?_
      refine t_norm ?_
      refine w_seq ?_
      refine rg_text ?_
      refine x_val rfl rfl rfl (v_assign rfl) ?_
      refine x_end ?_
      refine t_norm ?_
      refine w_seq ?_
      refine w_seq ?_
      refine rg_text ?_
      refine x_val rfl rfl rfl (v_assign rfl) ?_
      refine x_end ?_
      refine t_norm ?_
      refine w_block ?_
      refine w_fix (rowO 48 none) (List.Sublist.refl _) (fun w0 hm0 => ?_)
      refine w_loop (σ := List Iss × RowS × Nat × World) (fun x => x.2.2.1 ≤ 100000 ∧ x.1.length ≤ 1000 ∧ x.1 ++ missR p es (dlyP p es).1 (dlyP p es).2 day (100001 - x.2.2.1) (x.2.2.1 : Nat) x.1.length = missP p es day ∧ RowT tyIss (newD w (rowO 48 x.2.1)) x.2.2.2 x.2.1 x.1) (fun x => [(0, .pointer (some ⟨bs, 0, none⟩)), (1, Value.int .i64 day), (6, Value.int .i64 (dlyP p es).1), (7, Value.int .i64 (dlyP p es).2), (9, rowV x.2.1 x.1.length), (10, Value.int .i64 (x.2.2.1 : Nat))]) (fun x => rowO 48 x.2.1) (fun x => (x.2.2.2, notOwn (rowO 48 x.2.1)) :: [(w, fun _ => True)]) (fun x => 100000 - x.2.2.1) (([], none, 0, w0)) (⟨Nat.zero_le _, Nat.zero_le _, hmis0, RowT.nil⟩) (l_start (by repeat (first | exact Sub.nil | refine Sub.cons rfl ?_)) (fun _ h => h)) ?_
      rintro ⟨out, R, q, ws⟩ ⟨hq1, hol, hmf, hT⟩
      refine w_state ([(0, .pointer (some ⟨bs, 0, none⟩)), (1, Value.int .i64 day), (6, Value.int .i64 (dlyP p es).1), (7, Value.int .i64 (dlyP p es).2), (9, rowV R out.length), (10, Value.int .i64 (q : Nat))]) (rowO 48 R) ((ws, notOwn (rowO 48 R)) :: [(w, fun _ => True)]) ?_
      dsimp only at hq1 hol hmf hT
      obtain ⟨f, hf⟩ : ∃ f, 100001 - q = f + 1 := ⟨100000 - q, by omega⟩
      rw [hf, missR] at hmf
      refine w_seq ?_
      refine w_seq ?_
      refine rg_text ?_
      refine x_val rfl rfl rfl (v_move rfl) ?_
      refine x_bool rfl rfl rfl (v_lss rfl rfl) ?_
      intro b79 hb79
      refine x_val rfl rfl rfl (v_move rfl) ?_
      refine x_if [] rfl rfl rfl rfl rfl (fun hg => by obtain ⟨hg0, _⟩ := hg; subst hg0; (try simp only [List.cons_append, List.nil_append, gvl_nil, gvl_t, gvl_f]); exact v_move rfl) ?_
      refine x_if [] rfl rfl rfl rfl rfl (fun hg => by obtain ⟨hg0, _⟩ := hg; subst hg0; (try simp only [List.cons_append, List.nil_append, gvl_nil, gvl_t, gvl_f]); exact v_len_slice Tryz.underlying40 rfl) ?_
      refine x_ifb [] rfl rfl rfl rfl rfl (fun hg => by obtain ⟨hg0, _⟩ := hg; subst hg0; (try simp only [List.cons_append, List.nil_append, gvl_nil, gvl_t, gvl_f]); exact v_lss rfl rfl) ?_
      intro b83 hb83
      refine x_bool rfl rfl rfl (v_and rfl rfl) ?_
      intro b84 hb84
      refine x_end ?_
      refine t_norm ?_
      refine w_cond rfl (fun hc84 => ?_) (fun hc84 => ?_)
      · simp only [hb84, hb83, hb79, decide_eq_true_eq, decide_eq_false_iff_not, Bool.and_eq_true, Bool.or_eq_true, Bool.and_eq_false_iff, Bool.or_eq_false_iff, Bool.not_eq_true', Bool.not_eq_false', ne_eq, Decidable.not_not] at hc84
        have hq2 : q < 100000 := by have := hc84.1; omega
        have hon : out.length < 1000 := by have := hc84.2; omega
        rw [if_pos ⟨by omega, hon⟩] at hmf
        have hdy := day_rng hq (show (0 : Int) ≤ (q : Nat) by omega) (show ((q : Nat) : Int) ≤ 2000000 by omega)
        refine w_skip ?_
        refine t_norm ?_
        refine w_seq ?_
        refine w_block ?_
        refine w_seq ?_
        refine rg_draw 14 [(true, 0), (true, 1), (true, 2), (true, 3), (true, 4), (true, 5), (true, 6), (true, 7), (true, 8), (true, 9), (true, 10), (true, 11), (true, 12), (true, 13)] (by kernel_rfl) (by kernel_rfl) ?_
        refine x_val rfl rfl rfl (v_move rfl) ?_
        refine x_val rfl rfl rfl (v_nilCheck rfl) ?_
        refine x_val rfl rfl rfl (v_fieldAddr (off' := 0) Tryz.underlying74 rfl sz26 (by decide) rfl rfl) ?_
        refine x_val rfl rfl rfl (v_fieldAddr (off' := 0) Tryz.underlying26 rfl sz3 (by decide) rfl rfl) ?_
        refine x_val rfl rfl rfl (v_load Tryz.underlying3 rfl rfl (at_ro (s := (w, fun _ => True)) (by repeat (first | exact List.Mem.head _ | apply List.Mem.tail)) trivial (hS.cells 0 (by simp)))) ?_
        refine x_val rfl rfl rfl (v_move rfl) ?_
        refine x_val rfl rfl rfl (v_move rfl) ?_
        refine x_val rfl rfl rfl (v_nilCheck rfl) ?_
        refine x_val rfl rfl rfl (v_fieldAddr (off' := 0) Tryz.underlying74 rfl sz26 (by decide) rfl rfl) ?_
        refine x_val rfl rfl rfl (v_fieldAddr (off' := 1) Tryz.underlying26 rfl sz3 (by decide) rfl rfl) ?_
        refine x_val rfl rfl rfl (v_load Tryz.underlying3 rfl rfl (at_ro (s := (w, fun _ => True)) (by repeat (first | exact List.Mem.head _ | apply List.Mem.tail)) trivial (hS.cells 1 (by simp)))) ?_
        refine x_val rfl rfl rfl (v_muli rfl rfl rfl (by first | omega | (dsimp only; omega))) ?_
        refine x_val rfl rfl rfl (v_addi rfl rfl rfl (by first | omega | (dsimp only; omega))) ?_
        refine x_val rfl rfl rfl (v_assign rfl) ?_
        refine x_end ?_
        refine t_norm ?_
        refine w_seq_cut (σ := Int) (fun ex => ex = (p.first + (q : Nat) * p.days + (if (q : Int) > (dlyP p es).2 then (dlyP p es).1 else 0))) (fun ex => [(0, .pointer (some ⟨bs, 0, none⟩)), (1, Value.int .i64 day), (6, Value.int .i64 (dlyP p es).1), (7, Value.int .i64 (dlyP p es).2), (9, rowV R out.length), (10, Value.int .i64 (q : Nat)), (11, Value.int .i64 ex)]) (fun ex => rowO 48 R) (fun ex => (ws, notOwn (rowO 48 R)) :: [(w, fun _ => True)]) ?_ ?_
        · refine w_seq ?_
          refine rg_text ?_
          refine x_val rfl rfl rfl (v_move rfl) ?_
          refine x_val rfl rfl rfl (v_move rfl) ?_
          refine x_bool rfl rfl rfl (v_gtr rfl rfl) ?_
          intro b102 hb102
          refine x_end ?_
          refine t_norm ?_
          refine w_cond rfl (fun hc102 => ?_) (fun hc102 => ?_)
          · simp only [hb102, decide_eq_true_eq, decide_eq_false_iff_not, Bool.and_eq_true, Bool.or_eq_true, Bool.and_eq_false_iff, Bool.or_eq_false_iff, Bool.not_eq_true', Bool.not_eq_false', ne_eq, Decidable.not_not] at hc102
            have hadd : (if (q : Int) > (dlyP p es).2 then (dlyP p es).1 else 0) = (dlyP p es).1 := if_pos (by omega)
            refine rg_text ?_
            refine x_val rfl rfl rfl (v_move rfl) ?_
            refine x_val rfl rfl rfl (v_move rfl) ?_
            refine x_val rfl rfl rfl (v_addi rfl rfl rfl (by first | omega | (dsimp only; omega))) ?_
            refine x_val rfl rfl rfl (v_assign rfl) ?_
            refine x_end ?_
            exact c_norm (p.first + (q : Nat) * p.days + (dlyP p es).1) (by rw [hadd]) (by repeat (first | exact Sub.nil | refine Sub.cons rfl ?_)) (fun _ h => h)
          · simp only [hb102, decide_eq_true_eq, decide_eq_false_iff_not, Bool.and_eq_true, Bool.or_eq_true, Bool.and_eq_false_iff, Bool.or_eq_false_iff, Bool.not_eq_true', Bool.not_eq_false', ne_eq, Decidable.not_not] at hc102
            have hadd : (if (q : Int) > (dlyP p es).2 then (dlyP p es).1 else 0) = 0 := if_neg (by omega)
            refine w_skip ?_
            exact c_norm (p.first + (q : Nat) * p.days) (by rw [hadd, Int.add_zero]) (by repeat (first | exact Sub.nil | refine Sub.cons rfl ?_)) (fun _ h => h)
        · rintro ex hex
          refine w_state ([(0, .pointer (some ⟨bs, 0, none⟩)), (1, Value.int .i64 day), (6, Value.int .i64 (dlyP p es).1), (7, Value.int .i64 (dlyP p es).2), (9, rowV R out.length), (10, Value.int .i64 (q : Nat)), (11, Value.int .i64 ex)]) (rowO 48 R) ((ws, notOwn (rowO 48 R)) :: [(w, fun _ => True)]) ?_
          rw [← hex] at hmf
          have hexr : -1000000000000 ≤ ex ∧ ex ≤ 1000000000000 := by rw [hex]; split <;> omega
          refine w_seq ?_
          refine w_seq ?_
          refine rg_text ?_
          refine x_val rfl rfl rfl (v_move rfl) ?_
          refine x_val rfl rfl rfl (v_move rfl) ?_
          refine x_bool rfl rfl rfl (v_gtr rfl rfl) ?_
          intro b108 hb108
          refine x_val rfl rfl rfl (v_move rfl) ?_
          refine x_if [] rfl rfl rfl rfl rfl (fun hg => by obtain ⟨hg0, _⟩ := hg; subst hg0; (try simp only [List.cons_append, List.nil_append, gvl_nil, gvl_t, gvl_f]); exact v_move rfl) ?_
          refine x_if [] rfl rfl rfl rfl rfl (fun hg => by obtain ⟨hg0, _⟩ := hg; subst hg0; (try simp only [List.cons_append, List.nil_append, gvl_nil, gvl_t, gvl_f]); exact v_move rfl) ?_
          refine x_ifb [] rfl rfl rfl rfl rfl (fun hg => by obtain ⟨hg0, _⟩ := hg; subst hg0; (try simp only [List.cons_append, List.nil_append, gvl_nil, gvl_t, gvl_f]); exact v_gtr rfl rfl) ?_
          intro b112 hb112
          refine x_bool rfl rfl rfl (v_and rfl rfl) ?_
          intro b113 hb113
          refine x_end ?_
          refine t_norm ?_
          refine w_cond rfl (fun hc113 => ?_) (fun hc113 => ?_)
          · simp only [hb113, hb112, hb108, decide_eq_true_eq, decide_eq_false_iff_not, Bool.and_eq_true, Bool.or_eq_true, Bool.and_eq_false_iff, Bool.or_eq_false_iff, Bool.not_eq_true', Bool.not_eq_false', ne_eq, Decidable.not_not] at hc113
            rw [if_pos ⟨by omega, by omega⟩, List.append_nil] at hmf
            subst hmf
            refine w_exit ?_
            refine t_exit ?_
            refine b_miss rfl ?_
            refine t_exit ?_
            refine t_exit ?_
            refine b_hit ?_
            refine t_norm ?_
            refine w_seq ?_
            refine rg_text ?_
            refine x_val rfl rfl rfl (v_move rfl) ?_
            refine x_val rfl rfl rfl (v_assign rfl) ?_
            refine x_end ?_
            refine t_norm ?_
            refine w_ret ?_
            refine ret1 rfl rfl (fun w' hm => ⟨_, rfl, hm.base (by simp), ?_⟩)
            exact (hT.keep (Kept.frz hm (List.Sublist.refl _) (.head _))).rd (e := 48) hm (fun q hq => hq) (fun _ h => h.1) (fun q hq => hm.newer (by simp) hq) rfl
          · simp only [hb113, hb112, hb108, decide_eq_true_eq, decide_eq_false_iff_not, Bool.and_eq_true, Bool.or_eq_true, Bool.and_eq_false_iff, Bool.or_eq_false_iff, Bool.not_eq_true', Bool.not_eq_false', ne_eq, Decidable.not_not] at hc113
            rw [if_neg (fun h => by obtain ⟨h1, h2⟩ := h; rcases hc113 with h3 | h3 <;> omega)] at hmf
            refine w_skip ?_
            refine t_norm ?_
            refine w_seq ?_
            refine rg_text ?_
            refine x_val rfl rfl rfl (v_move rfl) ?_
            refine x_val rfl rfl rfl (v_move rfl) ?_
            refine x_call (R := fun v wa wb => ∃ y : Ent, v = .tuple #[.agg (entC y).toArray, .bool (thereP es (q : Nat))]) rfl rfl rfl Tryz.func51 (by kernel_rfl) rfl (fun w1 hw1 => (c_rEnt p es (q : Nat) w1 (hS.keep (hw1.base (by simp))) hlen).mono fun e w2 ⟨y, h1, h2⟩ => ⟨_, h1, h2, y, rfl⟩) ?_
            intro v117 wa117 wb117 hm117 hl117 hR117
            obtain ⟨y, rfl⟩ := hR117
            refine x_val rfl rfl rfl (v_move rfl) ?_
            refine x_val rfl rfl rfl (v_extract rfl rfl) ?_
            refine x_bool rfl rfl rfl (v_extract rfl rfl) ?_
            intro b119 hb119
            refine x_alloc rfl rfl rfl zr91 ?_
            intro p12
            refine x_store0 [] rfl rfl rfl rfl sz91 rfl rfl ?_
            refine x_val rfl rfl rfl (v_assign rfl) ?_
            refine x_end ?_
            refine t_norm ?_
            refine w_seq ?_
            refine rg_text ?_
            refine x_val rfl rfl rfl (v_move rfl) ?_
            refine x_bool rfl rfl rfl (v_not rfl) ?_
            intro b121 hb121
            refine x_val rfl rfl rfl (v_move rfl) ?_
            refine x_if [] rfl rfl rfl rfl rfl (fun hg => by obtain ⟨hg0, _⟩ := hg; subst hg0; (try simp only [List.cons_append, List.nil_append, gvl_nil, gvl_t, gvl_f]); exact v_move rfl) ?_
            refine x_if [] rfl rfl rfl rfl rfl (fun hg => by obtain ⟨hg0, _⟩ := hg; subst hg0; (try simp only [List.cons_append, List.nil_append, gvl_nil, gvl_t, gvl_f]); exact v_move rfl) ?_
            refine x_ifb [] rfl rfl rfl rfl rfl (fun hg => by obtain ⟨hg0, _⟩ := hg; subst hg0; (try simp only [List.cons_append, List.nil_append, gvl_nil, gvl_t, gvl_f]); exact v_leq rfl rfl) ?_
            intro b125 hb125
            refine x_bool rfl rfl rfl (v_and rfl rfl) ?_
            intro b126 hb126
            refine x_end ?_
            refine t_norm ?_
            refine w_cond rfl (fun hc126 => ?_) (fun hc126 => ?_)
            · simp only [hb126, hb125, hb121, hb119, decide_eq_true_eq, decide_eq_false_iff_not, Bool.and_eq_true, Bool.or_eq_true, Bool.and_eq_false_iff, Bool.or_eq_false_iff, Bool.not_eq_true', Bool.not_eq_false', ne_eq, Decidable.not_not] at hc126
              have hth : thereP es (q : Nat) = false := by have := hc126.1; simpa using this
              rw [if_pos ⟨hth, by have := hc126.2; omega⟩] at hmf
              refine rg_text ?_
              refine x_val rfl rfl rfl (v_move rfl) ?_
              refine x_val rfl rfl rfl (v_move rfl) ?_
              refine x_val rfl rfl rfl (v_nilCheck rfl) ?_
              refine x_val rfl rfl rfl (v_fieldAddr Tryz.underlying74 rfl sz26 (by decide) rfl rfl) ?_
              refine x_val rfl rfl rfl (v_loadN (vs := ([Value.int .i64 p.first, Value.int .i64 p.days, Value.slice A1 p.lv.length c1, Value.slice A2 p.st.length c2, Value.slice A3 es.length c3]).take 4) Tryz.underlying26 rfl sz26 rfl (fun j hj => at_ro (s := (w, fun _ => True)) (by repeat (first | exact List.Mem.head _ | apply List.Mem.tail)) trivial (by match j, hj with | 0, _ => exact hS.cells 0 (by simp) | 1, _ => exact hS.cells 1 (by simp) | 2, _ => exact hS.cells 2 (by simp) | 3, _ => exact hS.cells 3 (by simp)))) ?_
              refine x_val rfl rfl rfl (v_move rfl) ?_
              refine x_call (R := fun v wa wb => sliceRd tyI (fun b => wa.heap.size ≤ b) wb v (numsP p (q : Nat))) rfl rfl rfl Tryz.func52 (by kernel_rfl) rfl (fun w1 hw1 => c_Numbers p (q : Nat) w1 (patRd.keep (⟨hS.fst, hS.dys, hS.lvs, hS.sts⟩ : patRd (fun _ => True) w p (.slice A1 p.lv.length c1) (.slice A2 p.st.length c2)) (Kept.later (hw1.base (by simp)))) hq (by omega) (by omega)) ?_
              intro v133 wa wb hwa hwl hR9
              obtain ⟨A8, c8, rfl, -⟩ := id hR9
              obtain ⟨css, hcl, hrow, hrd⟩ := hT
              refine x_val rfl rfl rfl (v_move rfl) ?_
              refine x_val (v := .agg ([Value.slice A8 (numsP p (q : Nat)).length c8, Value.int .i64 ex]).toArray) rfl rfl rfl (v_buildL (places := [(0, 1), (1, 1)]) Tryz.underlying48 zr48 (by kernel_rfl) rfl rfl) ?_
              refine x_buildSliceL (cs := [Value.slice A8 (numsP p (q : Nat)).length c8, Value.int .i64 ex]) rfl rfl rfl Tryz.underlying40 sz48 zr48 rfl rfl rfl ?_
              intro p136
              refine x_append (e := 48) [(p136, Obj.cells ([Value.slice A8 (numsP p (q : Nat)).length c8, Value.int .i64 ex]).toArray 48), (p12, Obj.cells (entC y).toArray 91 (0, 0))] (l2 := []) R (len := out.length) (xs := css.flatten) rfl rfl rfl rfl (by simp only [List.append_nil]; rfl) hrow Tryz.underlying40 ap48 rfl rfl (m := 1) (news := [Value.slice A8 (numsP p (q : Nat)).length c8, Value.int .i64 ex]) (fun i hi => at_ownL (vs := [Value.slice A8 (numsP p (q : Nat)).length c8, Value.int .i64 ex]) (.head _) (by rw [Nat.zero_add]; exact List.getElem?_eq_getElem hi)) rfl (by simp only [maxLen]; omega) (by omega) ?_
              intro R2 hR2
              rw [List.append_nil]
              refine x_val rfl rfl rfl (v_assign rfl) ?_
              refine x_end ?_
              refine b_norm ?_
              refine t_norm ?_
              refine rg_text ?_
              refine x_val rfl rfl rfl (v_move rfl) ?_
              refine x_val rfl rfl rfl (v_addi rfl rfl rfl (by first | omega | (dsimp only; omega))) ?_
              refine x_val rfl rfl rfl (v_assign rfl) ?_
              refine x_end ?_
              refine s_fix (rowO 48 R2) (((List.Sublist.refl _).cons _).cons _) (fun w0 hm0 => ?_)
              have hT2 := snocN (T := tyIss) (D := newD w (rowO 48 R2)) (ws := w0) (x := (⟨numsP p (q : Nat), ex⟩ : Iss)) rfl hcl (fun j h1 h2 => tyIss.keep (hrd j h1 h2) (Kept.frz hm0 (((List.Sublist.refl _).cons _).cons _) (by simp))) hR2 ⟨_, rfl, hR9.keep (Kept.made2 (hm0.less (((List.Sublist.refl _).cons _).cons _) (fun _ h => h)) (.head _) (fun k hk p hp he => by have := hwa.lt hp; omega) (hwa.base (by simp)).size), by unfold in64; dsimp only; omega⟩
              exact l_norm (x := (out, R, q, ws)) (μ := fun x : List Iss × RowS × Nat × World => 100000 - x.2.2.1) (out ++ [⟨numsP p (q : Nat), ex⟩], R2, q + 1, w0) ⟨by dsimp only; omega, by dsimp only; rw [List.length_append, List.length_singleton]; omega, by dsimp only; rw [List.length_append, List.length_singleton, List.append_assoc, show 100001 - (q + 1) = f by omega]; exact hmf, hT2⟩ (by simp only; omega) (by dsimp only; rw [List.length_append, List.length_singleton]; exact (by repeat (first | exact Sub.nil | refine Sub.cons rfl ?_))) (fun w1 h => h.less (List.Sublist.refl _) (fun q hq => by simp at hq ⊢; rcases hq with h | h; (· exact .inl h); simp [h]))
            · simp only [hb126, hb125, hb121, hb119, decide_eq_true_eq, decide_eq_false_iff_not, Bool.and_eq_true, Bool.or_eq_true, Bool.and_eq_false_iff, Bool.or_eq_false_iff, Bool.not_eq_true', Bool.not_eq_false', ne_eq, Decidable.not_not] at hc126
              rw [if_neg (fun h => by obtain ⟨h1, h2⟩ := h; rcases hc126 with h3 | h3; (· rw [h1] at h3; simp at h3); omega)] at hmf
              refine w_skip ?_
              refine b_norm ?_
              refine t_norm ?_
              refine rg_text ?_
              refine x_val rfl rfl rfl (v_move rfl) ?_
              refine x_val rfl rfl rfl (v_addi rfl rfl rfl (by first | omega | (dsimp only; omega))) ?_
              refine x_val rfl rfl rfl (v_assign rfl) ?_
              refine x_end ?_
              exact l_norm (x := (out, R, q, ws)) (μ := fun x : List Iss × RowS × Nat × World => 100000 - x.2.2.1) (out, R, q + 1, ws) ⟨by dsimp only; omega, hol, by dsimp only; rw [show 100001 - (q + 1) = f by omega]; exact hmf, hT⟩ (by simp only; omega) (by repeat (first | exact Sub.nil | refine Sub.cons rfl ?_)) (fun w1 h => h.less (List.sublist_cons_self _ _) (fun s hs => by repeat (first | exact hs | apply List.mem_cons_of_mem)))
      · simp only [hb84, hb83, hb79, decide_eq_true_eq, decide_eq_false_iff_not, Bool.and_eq_true, Bool.or_eq_true, Bool.and_eq_false_iff, Bool.or_eq_false_iff, Bool.not_eq_true', Bool.not_eq_false', ne_eq, Decidable.not_not] at hc84
        rw [if_neg (fun h => by obtain ⟨h1, h2⟩ := h; rcases hc84 with h3 | h3 <;> omega), List.append_nil] at hmf
        subst hmf
        refine w_exit ?_
        refine t_exit ?_
        refine t_exit ?_
        refine b_hit ?_
        refine t_norm ?_
        refine w_seq ?_
        refine rg_text ?_
        refine x_val rfl rfl rfl (v_move rfl) ?_
        refine x_val rfl rfl rfl (v_assign rfl) ?_
        refine x_end ?_
        refine t_norm ?_
        refine w_ret ?_
        refine ret1 rfl rfl (fun w' hm => ⟨_, rfl, hm.base (by simp), ?_⟩)
        exact (hT.keep (Kept.frz hm (List.Sublist.refl _) (.head _))).rd (e := 48) hm (fun q hq => hq) (fun _ h => h.1) (fun q hq => hm.newer (by simp) hq) rfl

end Go.Proofs.YtaniaihoodgmpaaGreatDoor
