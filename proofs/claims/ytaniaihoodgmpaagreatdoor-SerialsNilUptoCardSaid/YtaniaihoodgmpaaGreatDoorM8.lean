/- Of the proofs of YtaniaihoodgmpaaGreatDoor: Ur Xx Xp, put together. -/
import Derived.Test.YtaniaihoodgmpaaGreatDoorM7
import Derived.Test.YtaniaihoodgmpaaGreatDoorM2
import Derived.Test.YtaniaihoodgmpaaGreatDoorM6
import Derived.Lay
import Derived.LaidSub
import Derived.Lib.LaidTab
import Derived.Stop.LaidErr
import Derived.Deep.DeepHandedRow
import Derived.SevenTiedAt
import Derived.Test.YtaniaihoodgmpaaGreatDoorM3
import Derived.Test.YtaniaihoodgmpaaGreatDoorM1
import Derived.Test.YtaniaihoodgmpaaGreatDoorM4
import Derived.Test.YtaniaihoodgmpaaGreatDoorM5
namespace Go.Proofs.YtaniaihoodgmpaaGreatDoor
open Go.RowKit Go.PK
set_option linter.unusedVariables false
set_option linter.unusedSimpArgs false

theorem v_pneq {P : Program} {n : Nat} {l : List (Nat × Value)} {own : List (Nat × Obj)} {ro : List Snap} {x y : Operand} {t t' ty T : TypeId} {o : Option Addr} (ht : P.underlying t = some (.pointer T)) (hx : ev l x = some (.pointer o)) (hy : ev l y = some (.pointer none)) : OpV P n l own ro (.binOp .neq t x y t') ty (.bool o.isSome) := by
 intro A w q ha _ hq _
 have h : ∀ d : Nat, (Op.equalIn (d + 1) t (.pointer o) (.pointer none)).run P w = .ok o.isNone w := fun d => by
  cases o <;> simp [Op.equalIn, run_underlying ht]
 have h2 : (Op.equal t (.pointer o) (.pointer none)).run P w = .ok o.isNone w := h 9999
 cases o <;> simp [execOp, hq, ha.eval hx, ha.eval hy, eqGuard, binOp, h2]
theorem zero_no : ¬rightQ zeroPat := fun h => by have := h.1.1; simp [zeroPat] at this
theorem take_no {p : Pat} (h : ¬rightQ p) (es : List Ent) (text : ByteArray) (day : Int) : (takeQ p es text day).1 = es := by
 have e : (tkE p text day).1 = none := by
  unfold tkE
  split
  ·rfl
  ·split
   ·rw [numP_no h, numP_no h]
   ·rfl
 rw [takeQ_eq, e]
theorem write_zero : writeQ zeroPat = ⟨#[]⟩ := by unfold writeQ; rw [if_neg zero_no]
theorem open_encZ (rd : ByteArray → Pat × Int) : openG rd (encQ zeroPat []) = some (zeroPat, []) := by
 have hin := entsI_in (l := []) (fun x hx => by cases hx)
 have hiz : (⟨(intsG (entsI [])).toArray⟩ : ByteArray).size < 18446744073709551616 := by
  rw [← bl_len, bl_mk, ← intsT_all]
  have := intsT_len (l := entsI []) (by simp [entsI]) hin _ (Nat.le_refl _)
  simp [entsI] at this ⊢
  omega
 have hu : unpQ (encQ zeroPat []) = ([writeQ zeroPat, ⟨(intsG (entsI [])).toArray⟩], 0) := unp_pack (show (2 : Nat) < 18446744073709551616 by decide) (fun s hs => by
  rcases List.mem_cons.1 hs with rfl | hs
  ·rw [write_zero]; decide
  ·rw [List.mem_singleton.1 hs]; exact hiz)
 have hri : riQ ⟨(intsG (entsI [])).toArray⟩ = (entsI [], 0) := ri_ints (by simp [entsI]) hin
 have e0 : nthS [writeQ zeroPat, ⟨(intsG (entsI [])).toArray⟩] 0 = writeQ zeroPat := rfl
 have e1 : nthS [writeQ zeroPat, ⟨(intsG (entsI [])).toArray⟩] 1 = ⟨(intsG (entsI [])).toArray⟩ := rfl
 have hh : headQ rd (writeQ zeroPat) = (zeroPat, 0) := by unfold headQ; rw [if_neg (by rw [write_zero]; simp)]
 unfold openG
 rw [hu, if_neg (by simp)]
 dsimp only
 rw [e0, e1, hri, hh, if_neg (by simp [entsI])]
 rfl
set_option maxRecDepth 100000 in
theorem c_TakeNil (text : ByteArray) (day : Int) (w : World) :
  Calls Tryz.prog 13 #[Value.pointer none, .string text, .int .i64 day] w fun e w' => e = .returned (.int .i64 1) ∧ Later w w' := by
 refine enter (vs := [Value.pointer none, .string text, .int .i64 day]) Tryz.func13 rfl Tryz.ntmps13 rfl ?_
 refine w_seq ?_
 refine rg_text ?_
 refine x_val rfl rfl rfl (v_assign rfl) ?_
 refine x_end ?_
 refine t_norm ?_
 refine w_seq ?_
 refine w_seq ?_
 refine rg_text ?_
 refine x_val rfl rfl rfl (v_move rfl) ?_
 refine x_bool rfl rfl rfl (v_pnil (o := none) Tryz.underlying28 rfl rfl) ?_
 intro b19 hb19
 refine x_end ?_
 refine t_norm ?_
 refine w_cond rfl (fun hc19 => ?_) (fun hc19 => ?_)
 ·skip
  refine w_seq ?_
  refine rg_text ?_
  refine x_val rfl rfl rfl (v_assign rfl) ?_
  refine x_end ?_
  refine t_norm ?_
  refine w_ret ?_
  refine t_ret ?_
  exact ret1 rfl rfl (fun w' hm => ⟨rfl, hm.base (by simp)⟩)
 ·simp [hb19] at hc19
set_option maxRecDepth 100000 in
theorem c_MissNil (day : Int) (w : World) :
  Calls Tryz.prog 17 #[Value.pointer none, .int .i64 day] w fun e w' => e = .returned (.slice none 0 0) ∧ Later w w' := by
 refine enter (vs := [Value.pointer none, .int .i64 day]) Tryz.func17 rfl Tryz.ntmps17 rfl ?_
 refine w_seq ?_
 refine rg_text ?_
 refine x_val rfl rfl rfl (v_assign rfl) ?_
 refine x_end ?_
 refine t_norm ?_
 refine w_seq ?_
 refine w_seq ?_
 refine rg_text ?_
 refine x_val rfl rfl rfl (v_move rfl) ?_
 refine x_bool rfl rfl rfl (v_pnil (o := none) Tryz.underlying28 rfl rfl) ?_
 intro b12 hb12
 obtain rfl : b12 = true := hb12
 refine x_val rfl rfl rfl (v_move rfl) ?_
 refine x_no rfl rfl rfl rfl rfl ?_
 refine x_no rfl rfl rfl rfl rfl ?_
 refine x_no rfl rfl rfl rfl rfl ?_
 refine x_no rfl rfl rfl rfl rfl ?_
 refine x_no rfl rfl rfl rfl rfl ?_
 refine x_no rfl rfl rfl rfl rfl ?_
 refine x_bool rfl rfl rfl (v_or (v := false) rfl rfl) ?_
 intro b20 hb20
 obtain rfl : b20 = true := hb20
 refine x_end ?_
 refine t_norm ?_
 refine w_cond rfl (fun hc20 => ?_) (fun hc20 => ?_)
 ·skip
  refine w_seq ?_
  refine rg_text ?_
  refine x_val rfl rfl rfl (v_assign rfl) ?_
  refine x_end ?_
  refine t_norm ?_
  refine w_ret ?_
  refine t_ret ?_
  exact ret1 rfl rfl (fun w' hm => ⟨rfl, hm.base (by simp)⟩)
 ·cases hc20
set_option maxRecDepth 100000 in
theorem c_HeldNil (w : World) :
  Calls Tryz.prog 19 #[Value.pointer none] w fun e w' => e = .returned (.slice none 0 0) ∧ Later w w' := by
 refine enter (vs := [Value.pointer none]) Tryz.func19 rfl Tryz.ntmps19 rfl ?_
 refine w_seq ?_
 refine rg_text ?_
 refine x_val rfl rfl rfl (v_assign rfl) ?_
 refine x_end ?_
 refine t_norm ?_
 refine w_seq ?_
 refine w_seq ?_
 refine rg_text ?_
 refine x_val rfl rfl rfl (v_move rfl) ?_
 refine x_bool rfl rfl rfl (v_pnil (o := none) Tryz.underlying28 rfl rfl) ?_
 intro b9 hb9
 refine x_end ?_
 refine t_norm ?_
 refine w_cond rfl (fun hc9 => ?_) (fun hc9 => ?_)
 ·skip
  refine w_seq ?_
  refine rg_text ?_
  refine x_val rfl rfl rfl (v_assign rfl) ?_
  refine x_end ?_
  refine t_norm ?_
  refine w_ret ?_
  refine t_ret ?_
  exact ret1 rfl rfl (fun w' hm => ⟨rfl, hm.base (by simp)⟩)
 ·simp [hb9] at hc9
set_option maxRecDepth 100000 in
theorem c_EncNil (w : World) :
  Calls Tryz.prog 21 #[Value.pointer none] w fun e w' => e = .returned (.string ⟨#[]⟩) ∧ Later w w' := by
 refine enter (vs := [Value.pointer none]) Tryz.func21 rfl Tryz.ntmps21 rfl ?_
 refine w_seq ?_
 refine rg_text ?_
 refine x_val rfl rfl rfl (v_assign rfl) ?_
 refine x_end ?_
 refine t_norm ?_
 refine w_seq ?_
 refine w_seq ?_
 refine rg_text ?_
 refine x_val rfl rfl rfl (v_move rfl) ?_
 refine x_bool rfl rfl rfl (v_pnil (o := none) Tryz.underlying28 rfl rfl) ?_
 intro b8 hb8
 refine x_end ?_
 refine t_norm ?_
 refine w_cond rfl (fun hc8 => ?_) (fun hc8 => ?_)
 ·skip
  refine w_seq ?_
  refine rg_text ?_
  refine x_val rfl rfl rfl (v_assign rfl) ?_
  refine x_end ?_
  refine t_norm ?_
  refine w_ret ?_
  refine t_ret ?_
  exact ret1 rfl rfl (fun w' hm => ⟨rfl, hm.base (by simp)⟩)
 ·simp [hb8] at hc8
set_option maxRecDepth 100000 in
theorem c_NewBad {D : Nat → Prop} {v1 v2 : Value} (p : Pat) (w : World) (hp : patRd D w p v1 v2) (hq : ¬rightQ p) (hL : LD w) :
  Calls Tryz.prog 10 #[.agg #[.int .i64 p.first, .int .i64 p.days, v1, v2]] w fun e w' => ∃ b, e = .returned (.pointer (some ⟨b, 0, none⟩)) ∧ Later w w' ∧ Mem w' [(b, Obj.cells ([Value.int .i64 0, Value.int .i64 0, Value.slice none 0 0, Value.slice none 0 0, Value.slice none 0 0]).toArray 61 (0, 0))] [(w, fun _ => True)] := by
 obtain ⟨hp1, hp2, h1, h2⟩ := id hp
 obtain ⟨A1, c1, rfl, hlc1, hmx1, hB1⟩ := id h1
 obtain ⟨A2, c2, rfl, hlc2, hmx2, hB2⟩ := id h2
 obtain ⟨bL, oL, hL0, hLk⟩ := rd_blk h1
 obtain ⟨bS, oS, hS0, hSk⟩ := rd_blk h2
 refine enter (vs := [.agg #[.int .i64 p.first, .int .i64 p.days, .slice A1 p.lv.length c1, .slice A2 p.st.length c2]]) Tryz.func10 rfl Tryz.ntmps10 rfl ?_
 refine w_seq ?_
 refine rg_text ?_
 refine x_box rfl rfl rfl rfl ?_
 intro p1
 refine x_val rfl rfl rfl (v_assign rfl) ?_
 refine x_end ?_
 refine t_norm ?_
 refine w_seq ?_
 refine w_seq ?_
 refine rg_text ?_
 refine x_val rfl rfl rfl (v_load_blk Tryz.underlying26 rfl rfl (by first | exact .head _ | exact .tail _ (.head _) | exact .tail _ (.tail _ (.head _)) | (repeat (first | exact List.Mem.head _ | apply List.Mem.tail | apply List.mem_append_right))) (by exact sz26)) ?_
 refine x_callb rfl rfl rfl Tryz.func33 (by kernel_rfl) rfl (fun w1 hw1 => c_Right p w1 (hp.keep (Kept.later (hw1.base (by simp)))) (hL.later (hw1.base (by simp)))) ?_
 intro b4 hb4
 refine x_bool rfl rfl rfl (v_not rfl) ?_
 intro b5 hb5
 refine x_end ?_
 refine t_norm ?_
 refine w_cond rfl (fun hc5 => ?_) (fun hc5 => ?_)
 ·skip
  refine w_seq ?_
  refine rg_text ?_
  refine x_val rfl rfl rfl (v_buildL (places := [(0, 4), (4, 1)]) Tryz.underlying61 zr61 (by kernel_rfl) rfl rfl) ?_
  refine x_box rfl rfl rfl rfl ?_
  intro p7
  refine x_val rfl rfl rfl (v_assign rfl) ?_
  refine x_end ?_
  refine t_norm ?_
  refine w_ret ?_
  refine t_ret ?_
  exact ret1 rfl rfl (fun w' hm => ⟨p7, rfl, hm.base (by simp), hm.less (List.Sublist.cons_cons _ (List.nil_sublist _)) (fun _ h => h)⟩)
 ·rw [hb5, hb4, decide_eq_false hq] at hc5; cases hc5
set_option maxRecDepth 100000 in
theorem c_rNewBad {D : Nat → Prop} {v1 v2 : Value} (p : Pat) (w : World) (hp : patRd D w p v1 v2) (hq : ¬rightQ p) :
  Calls Tryz.prog 11 #[.agg #[.int .i64 p.first, .int .i64 p.days, v1, v2]] w fun e w' => ∃ b, e = .returned (.pointer (some ⟨b, 0, none⟩)) ∧ Later w w' ∧ Mem w' [(b, Obj.cells ([Value.int .i64 0, Value.int .i64 0, Value.slice none 0 0, Value.slice none 0 0, Value.slice none 0 0]).toArray 74 (0, 0))] [(w, fun _ => True)] := by
 obtain ⟨hp1, hp2, h1, h2⟩ := id hp
 obtain ⟨A1, c1, rfl, hlc1, hmx1, hB1⟩ := id h1
 obtain ⟨A2, c2, rfl, hlc2, hmx2, hB2⟩ := id h2
 obtain ⟨bL, oL, hL0, hLk⟩ := rd_blk h1
 obtain ⟨bS, oS, hS0, hSk⟩ := rd_blk h2
 refine enter (vs := [.agg #[.int .i64 p.first, .int .i64 p.days, .slice A1 p.lv.length c1, .slice A2 p.st.length c2]]) Tryz.func11 rfl Tryz.ntmps11 rfl ?_
 refine w_seq ?_
 refine rg_text ?_
 refine x_box rfl rfl rfl rfl ?_
 intro p1
 refine x_val rfl rfl rfl (v_assign rfl) ?_
 refine x_end ?_
 refine t_norm ?_
 refine w_seq ?_
 refine rg_text ?_
 refine x_val rfl rfl rfl (v_load_blk (e := 26) (fz := (0, 0)) (cs := #[Value.int .i64 p.first, Value.int .i64 p.days, Value.slice A1 p.lv.length c1, Value.slice A2 p.st.length c2]) Tryz.underlying26 rfl rfl (.head _) (by exact sz26)) ?_
 refine x_callb rfl rfl rfl Tryz.func35 (by kernel_rfl) rfl (fun w1 hw1 => c_rRight p w1 (hp.keep (Kept.later (hw1.base (by simp))))) ?_
 intro b5 hb5
 refine x_val rfl rfl rfl (v_assign rfl) ?_
 refine x_end ?_
 refine t_norm ?_
 refine w_seq ?_
 refine w_seq ?_
 refine rg_text ?_
 refine x_val rfl rfl rfl (v_move rfl) ?_
 refine x_bool rfl rfl rfl (v_not rfl) ?_
 intro b7 hb7
 refine x_end ?_
 refine t_norm ?_
 refine w_cond rfl (fun hc7 => ?_) (fun hc7 => ?_)
 ·skip
  refine w_seq ?_
  refine rg_text ?_
  refine x_val rfl rfl rfl (v_buildL (places := [(0, 4), (4, 1)]) Tryz.underlying74 zr74 (by kernel_rfl) rfl rfl) ?_
  refine x_box rfl rfl rfl rfl ?_
  intro p9
  refine x_val rfl rfl rfl (v_assign rfl) ?_
  refine x_end ?_
  refine t_norm ?_
  refine w_ret ?_
  refine t_ret ?_
  exact ret1 rfl rfl (fun w' hm => ⟨p9, rfl, hm.base (by simp), hm.less (List.Sublist.cons_cons _ (List.nil_sublist _)) (fun _ h => h)⟩)
 ·rw [hb7, hb5, decide_eq_false hq] at hc7; cases hc7
theorem serOK_zero {R : RowS} (h : rowOK 4 R 0 []) : SerOK zeroPat [] none none R := ⟨by unfold in64; decide, by unfold in64; decide, rowOK_nil, (fun d hd => by cases hd), rowOK_nil, (fun d hd => by cases hd), h, (fun x hx => by cases hx)⟩
theorem patRd_zero {D : Nat → Prop} (w : World) : patRd D w zeroPat (.slice none 0 0) (.slice none 0 0) := ⟨by unfold in64; decide, by unfold in64; decide, ⟨none, 0, rfl, Nat.le_refl _, Nat.zero_le _, fun h => absurd h (Nat.lt_irrefl 0)⟩, ⟨none, 0, rfl, Nat.le_refl _, Nat.zero_le _, fun h => absurd h (Nat.lt_irrefl 0)⟩⟩
set_option maxHeartbeats 4000000 in
set_option maxRecDepth 100000 in
theorem lawNil {D : Nat → Prop} {v1 v2 : Value} (p : Pat) (text : ByteArray) (z : Int) (w : World) (hp : patRd D w p v1 v2) (hts : text.size ≤ 2000000) (hz : in64 z) (hL : LD w) :
  Calls Tryz.prog 7 #[.agg #[.int .i64 p.first, .int .i64 p.days, v1, v2], .string text, .int .i64 z] w fun e w' => e = .returned (.bool (true)) ∧ Later w w' := by
 obtain ⟨hp1, hp2, h1, h2⟩ := id hp
 obtain ⟨A1, c1, rfl, hlc1, hmx1, hB1⟩ := id h1
 obtain ⟨A2, c2, rfl, hlc2, hmx2, hB2⟩ := id h2
 obtain ⟨bL, oL, hL0, hLk⟩ := rd_blk h1
 obtain ⟨bS, oS, hS0, hSk⟩ := rd_blk h2
 have hq0 : ¬rightQ (⟨p.first, 0, p.lv, p.st⟩ : Pat) := fun h => by exact absurd (show (1 : Int) ≤ 0 from h.2.2.1.1) (by decide)
 have hiz : (⟨(intsG (entsI [])).toArray⟩ : ByteArray).size ≤ 9223372036854775807 ∧ (⟨(intsG (entsI [])).toArray⟩ : ByteArray).size ≤ 2000000 ∧ (⟨(intsG (entsI [])).toArray⟩ : ByteArray).size ≤ 2000 := by
  rw [mk_size, ← intsT_all]
  have := intsT_len (l := entsI []) (by simp [entsI]) (entsI_in (l := []) (fun x hx => by cases hx)) _ (Nat.le_refl _)
  simp [entsI] at this ⊢
  omega
 refine enter (vs := [.agg #[.int .i64 p.first, .int .i64 p.days, .slice A1 p.lv.length c1, .slice A2 p.st.length c2], .string text, .int .i64 z]) Tryz.func7 rfl Tryz.ntmps7 rfl ?_
 refine w_seq ?_
 refine rg_text ?_
 refine x_box rfl rfl rfl rfl ?_
 intro p3
 refine x_val rfl rfl rfl (v_assign rfl) ?_
 refine x_end ?_
 refine t_norm ?_
 refine w_seq ?_
 refine rg_text ?_
 refine x_callb rfl rfl rfl Tryz.func8 (by kernel_rfl) rfl (fun w1 hw1 => c_sanity w1 (hL.later (hw1.base (by simp)))) ?_
 intro b16 hb16
 obtain rfl : b16 = true := hb16
 refine x_val rfl rfl rfl (v_assign rfl) ?_
 refine x_end ?_
 refine t_norm ?_
 refine w_seq ?_
 refine rg_text ?_
 refine x_val rfl rfl rfl (v_assign rfl) ?_
 refine x_end ?_
 refine t_norm ?_
 refine w_seq ?_
 refine w_seq ?_
 refine rg_text ?_
 refine x_val rfl rfl rfl (v_move rfl) ?_
 refine x_val rfl rfl rfl (v_move rfl) ?_
 refine x_val rfl rfl rfl (v_move rfl) ?_
 refine x_callv rfl rfl rfl Tryz.func13 (by kernel_rfl) rfl (fun w1 hw1 => c_TakeNil text z w1) ?_
 refine x_bool rfl rfl rfl (v_neq rfl rfl) ?_
 intro b21 hb21
 obtain rfl : b21 = false := hb21.trans (decide_eq_false (fun h => h rfl))
 refine x_val rfl rfl rfl (v_move rfl) ?_
 refine x_valg rfl rfl rfl rfl rfl (v_move rfl) ?_
 refine x_valg rfl rfl rfl rfl rfl (v_move rfl) ?_
 refine x_callvg rfl rfl rfl rfl rfl Tryz.func17 (by kernel_rfl) rfl (fun w1 hw1 => c_MissNil z w1) ?_
 refine x_valg rfl rfl rfl rfl rfl (v_len_slice Tryz.underlying40 rfl) ?_
 refine x_valg rfl rfl rfl rfl rfl (v_move rfl) ?_
 refine x_callvg rfl rfl rfl rfl rfl Tryz.func19 (by kernel_rfl) rfl (fun w1 hw1 => c_HeldNil w1) ?_
 refine x_valg rfl rfl rfl rfl rfl (v_len_slice Tryz.underlying40 rfl) ?_
 refine x_valg rfl rfl rfl rfl rfl (v_addi rfl rfl rfl (by first | omega | (dsimp only; omega))) ?_
 refine x_boolg rfl rfl rfl rfl rfl (v_neq rfl rfl) ?_
 intro b31 hb31
 obtain rfl : b31 = false := hb31.trans (decide_eq_false (fun h => h rfl))
 refine x_bool rfl rfl rfl (v_or rfl rfl) ?_
 intro b32 hb32
 obtain rfl : b32 = false := hb32
 refine x_val rfl rfl rfl (v_move rfl) ?_
 refine x_valg rfl rfl rfl rfl rfl (v_move rfl) ?_
 refine x_callvg rfl rfl rfl rfl rfl Tryz.func21 (by kernel_rfl) rfl (fun w1 hw1 => c_EncNil w1) ?_
 refine x_boolg rfl rfl rfl rfl rfl (v_sneq rfl rfl) ?_
 intro b36 hb36
 obtain rfl : b36 = false := hb36.trans (decide_eq_false (fun h => h rfl))
 refine x_bool rfl rfl rfl (v_or rfl rfl) ?_
 intro b37 hb37
 obtain rfl : b37 = false := hb37
 refine x_end ?_
 refine t_norm ?_
 refine w_cond rfl (fun hc37 => ?_) (fun hc37 => ?_)
 ·cases hc37
 ·skip
  refine w_skip ?_
  refine t_norm ?_
  refine w_seq ?_
  refine rg_text ?_
  refine x_val rfl rfl rfl (v_fieldAddr (off' := 1) Tryz.underlying26 rfl sz3 (by decide) rfl rfl) ?_
  refine x_store (cs := [Value.int .i64 p.first, Value.int .i64 p.days, Value.slice A1 p.lv.length c1, Value.slice A2 p.st.length c2]) (off := 1) (e := 26) (l2 := []) [] rfl rfl rfl rfl sz3 rfl (by show 1 + 1 ≤ 4; decide) ?_
  refine x_end ?_
  refine t_norm ?_
  refine w_seq_cut (σ := Nat × Nat × Nat) (fun y => True) (fun y => [(1, Value.string text), (2, Value.int .i64 z), (7, Value.bool true), (9, Value.pointer (some ⟨y.1, 0, none⟩)), (10, Value.pointer (some ⟨y.2.1, 0, none⟩)), (11, Value.pointer (some ⟨y.2.2, 0, none⟩))]) (fun y => [(y.2.2, Obj.cells ([Value.int .i64 0, Value.int .i64 0, Value.slice none 0 0, Value.slice none 0 0, Value.slice none 0 0]).toArray 74 (0, 0)), (y.1, Obj.cells ([Value.int .i64 0, Value.int .i64 0, Value.slice none 0 0, Value.slice none 0 0, Value.slice none 0 0]).toArray 61 (0, 0)), (y.2.1, Obj.cells ([Value.int .i64 0, Value.int .i64 0, Value.slice none 0 0, Value.slice none 0 0, Value.slice none 0 0]).toArray 61 (0, 0))]) (fun y => [(w, fun _ => True)]) ?_ ?_
  ·refine rg_text ?_
   refine x_val rfl rfl rfl (v_buildL (places := [(0, 4), (4, 1)]) Tryz.underlying61 zr61 (by kernel_rfl) rfl rfl) ?_
   refine x_box rfl rfl rfl rfl ?_
   intro p40
   refine x_val rfl rfl rfl (v_load_blk (cs := ([Value.int .i64 p.first, Value.int .i64 0, Value.slice A1 p.lv.length c1, Value.slice A2 p.st.length c2]).toArray) Tryz.underlying26 rfl rfl (by repeat (first | exact List.Mem.head _ | apply List.Mem.tail)) (by exact sz26)) ?_
   refine x_own (τ := Nat) (fun x => .pointer (some ⟨x, 0, none⟩)) (fun _ => True) (fun x => (x, Obj.cells ([Value.int .i64 0, Value.int .i64 0, Value.slice none 0 0, Value.slice none 0 0, Value.slice none 0 0]).toArray 61 (0, 0)) :: [(p40, Obj.cells ([Value.int .i64 0, Value.int .i64 0, Value.slice none 0 0, Value.slice none 0 0, Value.slice none 0 0]).toArray 61 (0, 0)), (p3, Obj.cells ([Value.int .i64 p.first, Value.int .i64 0, Value.slice A1 p.lv.length c1, Value.slice A2 p.st.length c2]).toArray 26 (0, 0))]) rfl rfl rfl Tryz.func10 (by kernel_rfl) rfl (fun w1 hw1 => (c_NewBad (⟨p.first, 0, p.lv, p.st⟩ : Pat) w1 ⟨hp1, (show in64 0 by unfold in64; decide), h1.keep (Kept.later (hw1.base (by simp))), h2.keep (Kept.later (hw1.base (by simp)))⟩ hq0 (hL.later (hw1.base (by simp)))).mono fun e w2 ⟨bq, h1, h2, h3⟩ => ⟨bq, h1, h2, trivial, (hw1.join2 h3).to (by first | rfl | (simp; done) | (simp; rfl))⟩) ?_
   intro bq _
   refine x_val rfl rfl rfl (v_buildL (places := [(0, 1), (1, 1), (2, 1), (3, 1)]) Tryz.underlying26 zr26 (by kernel_rfl) rfl rfl) ?_
   refine x_own (τ := Nat) (fun x => .pointer (some ⟨x, 0, none⟩)) (fun _ => True) (fun x => (x, Obj.cells ([Value.int .i64 0, Value.int .i64 0, Value.slice none 0 0, Value.slice none 0 0, Value.slice none 0 0]).toArray 74 (0, 0)) :: [(bq, Obj.cells ([Value.int .i64 0, Value.int .i64 0, Value.slice none 0 0, Value.slice none 0 0, Value.slice none 0 0]).toArray 61 (0, 0)), (p40, Obj.cells ([Value.int .i64 0, Value.int .i64 0, Value.slice none 0 0, Value.slice none 0 0, Value.slice none 0 0]).toArray 61 (0, 0)), (p3, Obj.cells ([Value.int .i64 p.first, Value.int .i64 0, Value.slice A1 p.lv.length c1, Value.slice A2 p.st.length c2]).toArray 26 (0, 0))]) rfl rfl rfl Tryz.func11 (by kernel_rfl) rfl (fun w1 hw1 => (c_rNewBad zeroPat w1 (patRd_zero (D := fun _ => True) w1) zero_no).mono fun e w2 ⟨bw, h1, h2, h3⟩ => ⟨bw, h1, h2, trivial, (hw1.join2 h3).to (by first | rfl | (simp; done) | (simp; rfl))⟩) ?_
   intro bw _
   refine x_val rfl rfl rfl (v_assign rfl) ?_
   refine x_val rfl rfl rfl (v_assign rfl) ?_
   refine x_val rfl rfl rfl (v_assign rfl) ?_
   refine x_end ?_
   exact c_norm (p40, bq, bw) trivial (by repeat (first | exact Sub.nil | refine Sub.cons rfl ?_)) (fun w1 h => (h.less (show List.Sublist [(bw, Obj.cells ([Value.int .i64 0, Value.int .i64 0, Value.slice none 0 0, Value.slice none 0 0, Value.slice none 0 0]).toArray 74 (0, 0)), (bq, Obj.cells ([Value.int .i64 0, Value.int .i64 0, Value.slice none 0 0, Value.slice none 0 0, Value.slice none 0 0]).toArray 61 (0, 0)), (p40, Obj.cells ([Value.int .i64 0, Value.int .i64 0, Value.slice none 0 0, Value.slice none 0 0, Value.slice none 0 0]).toArray 61 (0, 0))] _ from (((List.nil_sublist _).cons_cons _).cons_cons _).cons_cons _) (fun _ h => h)).perm (List.Perm.cons _ (List.Perm.swap _ _ _)))
  ·rintro ⟨p40, bq, bw⟩ _
   refine w_state ([(1, Value.string text), (2, Value.int .i64 z), (7, Value.bool true), (9, Value.pointer (some ⟨p40, 0, none⟩)), (10, Value.pointer (some ⟨bq, 0, none⟩)), (11, Value.pointer (some ⟨bw, 0, none⟩))]) ([(bw, Obj.cells ([Value.int .i64 0, Value.int .i64 0, Value.slice none 0 0, Value.slice none 0 0, Value.slice none 0 0]).toArray 74 (0, 0)), (p40, Obj.cells ([Value.int .i64 0, Value.int .i64 0, Value.slice none 0 0, Value.slice none 0 0, Value.slice none 0 0]).toArray 61 (0, 0)), (bq, Obj.cells ([Value.int .i64 0, Value.int .i64 0, Value.slice none 0 0, Value.slice none 0 0, Value.slice none 0 0]).toArray 61 (0, 0))]) ([(w, fun _ => True)]) ?_
   obtain ⟨cd, hcd⟩ : ∃ cd, (takeQ zeroPat [] text z).2 = cd := ⟨_, rfl⟩
   have ht0 := take_no zero_no [] text z
   refine w_seq ?_
   refine rg_text ?_
   refine x_val rfl rfl rfl (v_move rfl) ?_
   refine x_val rfl rfl rfl (v_move rfl) ?_
   refine x_val rfl rfl rfl (v_move rfl) ?_
   refine x_turnf (v := Value.int .i64 cd) (fun _ : Unit => True) (fun _ => [(p40, Obj.cells ([Value.int .i64 0, Value.int .i64 0, Value.slice none 0 0, Value.slice none 0 0, Value.slice none 0 0]).toArray 61 (0, 0)), (bq, Obj.cells ([Value.int .i64 0, Value.int .i64 0, Value.slice none 0 0, Value.slice none 0 0, Value.slice none 0 0]).toArray 61 (0, 0))]) rfl rfl Tryz.func14 (by kernel_rfl) rfl (fun w1 hw1 => by
    have h := c_rTake (R := none) (l2 := [(p40, Obj.cells ([Value.int .i64 0, Value.int .i64 0, Value.slice none 0 0, Value.slice none 0 0, Value.slice none 0 0]).toArray 61 (0, 0)), (bq, Obj.cells ([Value.int .i64 0, Value.int .i64 0, Value.slice none 0 0, Value.slice none 0 0, Value.slice none 0 0]).toArray 61 (0, 0))]) zeroPat [] text z hw1 (fun w1 own1 hw1 => patRd_zero w1) rowOK_nil srt_nil hts hz (by decide)
    rw [hcd] at h
    exact h.mono fun e w2 ⟨R', h1, h2, h3⟩ => ⟨h1, (), trivial, h3.less ((List.sublist_append_right _ _).cons _) (fun _ h => h)⟩) ?_
   intro _ _
   refine x_val rfl rfl rfl (v_assign rfl) ?_
   refine x_end ?_
   refine t_norm ?_
   refine w_seq ?_
   refine rg_text ?_
   refine x_callv rfl rfl rfl Tryz.func26 (by kernel_rfl) rfl (fun w1 hw1 => c_rInts (D := fun _ => True) (l := []) w1 ⟨none, 0, rfl, Nat.le_refl _, Nat.zero_le _, fun h => absurd h (Nat.lt_irrefl 0)⟩ (by decide)) ?_
   refine x_buildSliceL (cs := [Value.string ⟨#[]⟩, Value.string ⟨(intsG (entsI [])).toArray⟩]) rfl rfl rfl Tryz.underlying55 sz9 zr9 rfl rfl rfl ?_
   intro p50
   refine x_callv (v := Value.string (encQ zeroPat [])) rfl rfl rfl Tryz.func24 (by kernel_rfl) rfl (fun w1 hw1 => by
    have h := c_rPack (l := [writeQ zeroPat, ⟨(intsG (entsI [])).toArray⟩]) (D := fun _ => True) w1 (row1_rd (T := tyStr) (e := 9) (r := some (p50, [writeQ zeroPat, ⟨(intsG (entsI [])).toArray⟩].map Value.string, 2)) Value.string rfl (rowOK_lit rfl (by simp [maxLen])) rfl (fun D9 w9 s hs => ⟨rfl, by unfold okS; rcases List.mem_cons.1 hs with rfl | hs; (· rw [write_zero]; decide); rw [List.mem_singleton.1 hs]; exact hiz.1⟩) hw1 (fun q hq => by rw [show q = _ from List.mem_singleton.1 hq, write_zero]; exact .head _) (fun _ _ => trivial)) (by simp) (fun s hs => by rcases List.mem_cons.1 hs with rfl | hs; (· rw [write_zero]; decide); rw [List.mem_singleton.1 hs]; exact hiz.2.1)
    exact h) ?_
   refine x_val rfl rfl rfl (v_assign rfl) ?_
   refine x_end ?_
   refine t_norm ?_
   refine w_seq ?_
   refine rg_text ?_
   refine x_val rfl rfl rfl (v_move rfl) ?_
   have hez : (encQ zeroPat []).size ≤ 2000000 := by
    unfold encQ
    rw [mk_size, ← packT_all]
    have := packT_len (l := [writeQ zeroPat, ⟨(intsG (entsI [])).toArray⟩]) (N := 2000) (by simp) (fun s hs => by rcases List.mem_cons.1 hs with rfl | hs; (· rw [write_zero]; decide); rw [List.mem_singleton.1 hs]; exact hiz.2.2) (by decide) 2 (Nat.le_refl _)
    exact Nat.le_trans this (by decide)
   refine x_call (R := fun v wa wb => ∃ b v1 v2 v3, v = .tuple #[.pointer (some ⟨b, 0, none⟩), .int .i64 0] ∧ SerRdD (fun b => wa.heap.size ≤ b) wb b zeroPat [] v1 v2 v3) rfl rfl rfl Tryz.func23 (by kernel_rfl) rfl (fun w1 hw1 => by
    have h := c_Open (encQ zeroPat []) w1 hez (hL.later (hw1.base (by simp)))
    rw [open_encZ] at h
    exact h.mono fun e w2 ⟨v, h1, h2, b, v1, v2, v3, h3, h4⟩ => ⟨_, h1, h2, b, v1, v2, v3, by rw [h3]; rfl, h4⟩) ?_
   intro v54 wa54 wb54 hm54 hl54 hR54
   obtain ⟨bo, v1o, v2o, v3o, rfl, hSo⟩ := hR54
   refine x_val rfl rfl rfl (v_move rfl) ?_
   refine x_val rfl rfl rfl (v_extract rfl rfl) ?_
   refine x_val rfl rfl rfl (v_extract rfl rfl) ?_
   refine x_val rfl rfl rfl (v_assign rfl) ?_
   refine x_val rfl rfl rfl (v_assign rfl) ?_
   refine x_end ?_
   refine t_norm ?_
   refine w_seq ?_
   refine rg_text ?_
   refine x_val rfl rfl rfl (v_move rfl) ?_
   refine x_val rfl rfl rfl (v_move rfl) ?_
   refine x_valg rfl rfl rfl rfl rfl (v_move rfl) ?_
   refine x_valg rfl rfl rfl rfl rfl (v_move rfl) ?_
   refine x_valg rfl rfl rfl rfl rfl (v_move rfl) ?_
   refine x_mem (own' := [(p40, Obj.cells ([Value.int .i64 0, Value.int .i64 0, Value.slice none 0 0, Value.slice none 0 0, Value.slice none 0 0]).toArray 61 (0, 0)), (bq, Obj.cells ([Value.int .i64 0, Value.int .i64 0, Value.slice none 0 0, Value.slice none 0 0, Value.slice none 0 0]).toArray 61 (0, 0))]) (fun _ h => h.less (List.sublist_cons_self _ _) (fun _ h => h)) ?_
   refine x_turng (v := Value.int .i64 cd) (fun Rz : RowS => rowOK 4 Rz 0 []) (fun Rz => (p40, Obj.cells (serC zeroPat none none Rz 0).toArray 61 (0, 0)) :: (rowO 85 Rz ++ ([(bq, Obj.cells ([Value.int .i64 0, Value.int .i64 0, Value.slice none 0 0, Value.slice none 0 0, Value.slice none 0 0]).toArray 61 (0, 0))]))) rfl rfl rfl rfl Tryz.func13 (by kernel_rfl) rfl (fun w1 hw1 => by
    have h := c_Take (w0 := w) (R := none) (r1 := none) (r2 := none) (l2 := [(bq, Obj.cells ([Value.int .i64 0, Value.int .i64 0, Value.slice none 0 0, Value.slice none 0 0, Value.slice none 0 0]).toArray 61 (0, 0))]) zeroPat [] text z hw1 (by simp) hL (serOK_zero rowOK_nil) hts hz (by decide)
    rw [hcd, ht0] at h
    exact h.mono fun e w2 ⟨R', h1, h2, h3⟩ => ⟨h1, R', h2, h3⟩) ?_
   intro Rz hRz
   refine x_valg rfl rfl rfl rfl rfl (v_move rfl) ?_
   refine x_boolg rfl rfl rfl rfl rfl (v_eql rfl rfl) ?_
   intro b64 hb64
   obtain rfl : b64 = true := hb64.trans (decide_eq_true rfl)
   refine x_bool rfl rfl rfl (v_and rfl rfl) ?_
   intro b65 hb65
   obtain rfl : b65 = true := hb65
   refine x_val rfl rfl rfl (v_move rfl) ?_
   refine x_valg rfl rfl rfl rfl rfl (v_move rfl) ?_
   refine x_valg rfl rfl rfl rfl rfl (v_move rfl) ?_
   refine x_valg rfl rfl rfl rfl rfl (v_move rfl) ?_
   refine x_mem (own' := (bq, Obj.cells ([Value.int .i64 0, Value.int .i64 0, Value.slice none 0 0, Value.slice none 0 0, Value.slice none 0 0]).toArray 61 (0, 0)) :: ((p40, Obj.cells (serC zeroPat none none Rz 0).toArray 61 (0, 0)) :: rowO 85 Rz)) (fun _ h => h.perm (List.perm_append_comm (l₁ := (p40, Obj.cells (serC zeroPat none none Rz 0).toArray 61 (0, 0)) :: rowO 85 Rz) (l₂ := [(bq, Obj.cells ([Value.int .i64 0, Value.int .i64 0, Value.slice none 0 0, Value.slice none 0 0, Value.slice none 0 0]).toArray 61 (0, 0))]))) ?_
   refine x_turng (v := Value.int .i64 cd) (fun Rw : RowS => rowOK 4 Rw 0 []) (fun Rw => (bq, Obj.cells (serC zeroPat none none Rw 0).toArray 61 (0, 0)) :: (rowO 85 Rw ++ ((p40, Obj.cells (serC zeroPat none none Rz 0).toArray 61 (0, 0)) :: rowO 85 Rz))) rfl rfl rfl rfl Tryz.func13 (by kernel_rfl) rfl (fun w1 hw1 => by
    have h := c_Take (w0 := w) (R := none) (r1 := none) (r2 := none) (l2 := (p40, Obj.cells (serC zeroPat none none Rz 0).toArray 61 (0, 0)) :: rowO 85 Rz) zeroPat [] text z hw1 (by simp) hL (serOK_zero rowOK_nil) hts hz (by decide)
    rw [hcd, ht0] at h
    exact h.mono fun e w2 ⟨R', h1, h2, h3⟩ => ⟨h1, R', h2, h3⟩) ?_
   intro Rw hRw
   refine x_valg rfl rfl rfl rfl rfl (v_move rfl) ?_
   refine x_boolg rfl rfl rfl rfl rfl (v_eql rfl rfl) ?_
   intro b72 hb72
   obtain rfl : b72 = true := hb72.trans (decide_eq_true rfl)
   refine x_bool rfl rfl rfl (v_and rfl rfl) ?_
   intro b73 hb73
   obtain rfl : b73 = true := hb73
   refine x_val rfl rfl rfl (v_move rfl) ?_
   refine x_valg rfl rfl rfl rfl rfl (v_move rfl) ?_
   refine x_callvg (v := Value.string (encQ zeroPat [])) rfl rfl rfl rfl rfl Tryz.func21 (by kernel_rfl) rfl (fun w1 hw1 => c_Enc zeroPat [] w1 ((serOK_zero hRw).rd (b := bq) (e := 61) (e1 := 3) (e2 := 85) hw1 (by simp) (fun q hq => by cases hq) (fun q hq => by cases hq) (fun q hq => by simp [hq])) (by decide) (hL.later (hw1.base (by simp)))) ?_
   refine x_valg rfl rfl rfl rfl rfl (v_move rfl) ?_
   refine x_boolg rfl rfl rfl rfl rfl (v_seql rfl rfl) ?_
   intro b78 hb78
   obtain rfl : b78 = true := hb78.trans (decide_eq_true rfl)
   refine x_bool rfl rfl rfl (v_and rfl rfl) ?_
   intro b79 hb79
   obtain rfl : b79 = true := hb79
   refine x_val rfl rfl rfl (v_move rfl) ?_
   refine x_valg rfl rfl rfl rfl rfl (v_move rfl) ?_
   refine x_callvg (v := Value.string (encQ zeroPat [])) rfl rfl rfl rfl rfl Tryz.func21 (by kernel_rfl) rfl (fun w1 hw1 => c_Enc zeroPat [] w1 ((serOK_zero hRz).rd (b := p40) (e := 61) (e1 := 3) (e2 := 85) hw1 (by simp) (fun q hq => by cases hq) (fun q hq => by cases hq) (fun q hq => by simp [hq])) (by decide) (hL.later (hw1.base (by simp)))) ?_
   refine x_valg rfl rfl rfl rfl rfl (v_move rfl) ?_
   refine x_boolg rfl rfl rfl rfl rfl (v_seql rfl rfl) ?_
   intro b84 hb84
   obtain rfl : b84 = true := hb84.trans (decide_eq_true rfl)
   refine x_bool rfl rfl rfl (v_and rfl rfl) ?_
   intro b85 hb85
   obtain rfl : b85 = true := hb85
   refine x_val rfl rfl rfl (v_move rfl) ?_
   refine x_valg rfl rfl rfl rfl rfl (v_move rfl) ?_
   refine x_valg rfl rfl rfl rfl rfl (v_move rfl) ?_
   refine x_call_g (R := fun v wa wb => sliceRd tyIss (fun b => wa.heap.size ≤ b) wb v ([] : List Iss)) rfl rfl rfl rfl rfl Tryz.func17 (by kernel_rfl) rfl (fun w1 hw1 => (by have h := c_Missing zeroPat [] z w1 ((serOK_zero hRz).rd (b := p40) (e := 61) (e1 := 3) (e2 := 85) hw1 (by simp) (fun q hq => by cases hq) (fun q hq => by cases hq) (fun q hq => by simp [hq])) (fun x hx => by cases hx) (by decide) hz (hL.later (hw1.base (by simp))); rw [show missP zeroPat [] z = [] from if_neg zero_no] at h; exact h)) ?_
   intro v89 wa89 wb89 hm89 hl89 hR89
   obtain ⟨Aq89, cq89, rfl, -⟩ := id hR89
   refine x_valg rfl rfl rfl rfl rfl (v_len_slice Tryz.underlying40 rfl) ?_
   refine x_valg rfl rfl rfl rfl rfl (v_move rfl) ?_
   refine x_call_g (R := fun v wa wb => sliceRd tyIss (fun b => wa.heap.size ≤ b) wb v ([] : List Iss)) rfl rfl rfl rfl rfl Tryz.func19 (by kernel_rfl) rfl (fun w1 hw1 => c_Held zeroPat [] w1 ((serOK_zero hRw).rd (b := bq) (e := 61) (e1 := 3) (e2 := 85) hw1 (by simp) (fun q hq => by cases hq) (fun q hq => by cases hq) (fun q hq => by simp [hq])) (fun h => absurd rfl h) (fun x hx => by cases hx) (by decide)) ?_
   intro v92 wa92 wb92 hm92 hl92 hR92
   obtain ⟨Aq92, cq92, rfl, -⟩ := id hR92
   refine x_valg rfl rfl rfl rfl rfl (v_len_slice Tryz.underlying40 rfl) ?_
   refine x_valg rfl rfl rfl rfl rfl (v_addi rfl rfl rfl (by decide)) ?_
   refine x_boolg rfl rfl rfl rfl rfl (v_eql rfl rfl) ?_
   intro b95 hb95
   obtain rfl : b95 = true := hb95.trans (decide_eq_true rfl)
   refine x_bool rfl rfl rfl (v_and rfl rfl) ?_
   intro b96 hb96
   obtain rfl : b96 = true := hb96
   refine x_val rfl rfl rfl (v_move rfl) ?_
   refine x_valg rfl rfl rfl rfl rfl (v_move rfl) ?_
   refine x_boolg rfl rfl rfl rfl rfl (v_eql rfl rfl) ?_
   intro b99 hb99
   obtain rfl : b99 = true := hb99.trans (decide_eq_true rfl)
   refine x_bool rfl rfl rfl (v_and rfl rfl) ?_
   intro b100 hb100
   obtain rfl : b100 = true := hb100
   refine x_val rfl rfl rfl (v_move rfl) ?_
   refine x_valg rfl rfl rfl rfl rfl (v_move rfl) ?_
   refine x_boolg rfl rfl rfl rfl rfl (v_pneq (o := some ⟨bo, 0, none⟩) Tryz.underlying28 rfl rfl) ?_
   intro b103 hb103
   obtain rfl : b103 = true := hb103
   refine x_bool rfl rfl rfl (v_and rfl rfl) ?_
   intro b104 hb104
   obtain rfl : b104 = true := hb104
   refine x_val rfl rfl rfl (v_move rfl) ?_
   refine x_valg rfl rfl rfl rfl rfl (v_move rfl) ?_
   refine x_callvg (v := Value.string (encQ zeroPat [])) rfl rfl rfl rfl rfl Tryz.func21 (by kernel_rfl) rfl (fun w1 hw1 => c_Enc zeroPat [] w1 (hSo.new hw1 (by repeat (first | exact List.Mem.head _ | apply List.Mem.tail)) hm54) (by decide) (hL.later (hw1.base (by simp)))) ?_
   refine x_valg rfl rfl rfl rfl rfl (v_move rfl) ?_
   refine x_boolg rfl rfl rfl rfl rfl (v_seql rfl rfl) ?_
   intro b109 hb109
   obtain rfl : b109 = true := hb109.trans (decide_eq_true rfl)
   refine x_bool rfl rfl rfl (v_and rfl rfl) ?_
   intro b110 hb110
   obtain rfl : b110 = true := hb110
   refine x_val rfl rfl rfl (v_assign rfl) ?_
   refine x_end ?_
   refine t_norm ?_
   refine w_ret ?_
   exact ret1 rfl rfl (fun w' hm => ⟨rfl, hm.base (by simp)⟩)

end Go.Proofs.YtaniaihoodgmpaaGreatDoor

namespace Go.Proofs.YtaniaihoodgmpaaGreatDoor
open Go.RowKit Go.PK
set_option linter.unusedVariables false
set_option linter.unusedSimpArgs false

def laidL : List (String × DataW Unit) := [("math/bits.deBruijn32tab", Rows.laid_math_bits_deBruijn32tab), ("math/bits.deBruijn64tab", Rows.laid_math_bits_deBruijn64tab), ("internal/strconv.uint64pow10", Rows.laid_internal_strconv_uint64pow10), ("unicode/utf8.acceptRanges", Rows.laid_unicode_utf8_acceptRanges), ("strconv.ErrRange", Rows.laid_strconv_ErrRange), ("strconv.ErrSyntax", Rows.laid_strconv_ErrSyntax), ("unicode/utf8.first", Rows.laid_unicode_utf8_first)]
theorem noHandle {W : World} (h : laidMetH Tryz.prog laidL W) : laidMet Tryz.prog laidL W := by
 have h1 := (laidMetH_iff.1 h).1
 rwa [show (laidL.filter fun x => x.2.handleName?.isNone) = laidL from by kernel_rfl] at h1
theorem laid_tab {W : World} (h : laidMet Tryz.prog laidL W) : Lib.TabIs Tryz.prog W "internal/strconv.uint64pow10" .u64 Lib.pow10Tab := by
 have h1 := h.filter fun x => x.1 == "internal/strconv.uint64pow10"
 have e : (laidL.filter fun x => x.1 == "internal/strconv.uint64pow10") = [("internal/strconv.uint64pow10", Lib.tabData .u64 Lib.pow10Tab)] := by kernel_rfl
 rw [e] at h1
 exact Lib.tabIs_of_head (g := 3) (t := 194) (e := 107) (n := 20) (by kernel_rfl) (by kernel_rfl) (by kernel_rfl) (by kernel_rfl) (by kernel_rfl) (by kernel_rfl) h1
theorem star : "*" ++ "errors.errorString" = "*errors.errorString" := by decide
theorem row104 (u : TypeId) (h : Tryz.prog.typeName? 3 u = some "*errors.errorString") : u = 190 :=
 typeName_ptr_named (nm := "errors.errorString") (by rw [star]; kernel_rfl) (by kernel_rfl) (by decide) u (by rw [star]; exact h)
theorem laid_syn {W : World} (h : laidMet Tryz.prog laidL W) : ∃ tp p, W.var? Tryz.prog "strconv.ErrSyntax" = some #[.iface tp p] := by
 have h1 := h.filter fun x => x.1 == "strconv.ErrSyntax"
 have e : (laidL.filter fun x => x.1 == "strconv.ErrSyntax") = [("strconv.ErrSyntax", .iface "*errors.errorString" (.ptr (.agg [.lit (.string [105, 110, 118, 97, 108, 105, 100, 32, 115, 121, 110, 116, 97, 120])])))] := by kernel_rfl
 rw [e] at h1
 obtain ⟨a0, s0, hv0, _⟩ := laid_sentinel (g := 1) (ti := 112) (tp := 190) (te := 192) (ts := 9) h1 (by kernel_rfl) (by kernel_rfl) Tryz.underlying112 row104 Tryz.underlying190 Tryz.underlying192 rfl rfl Tryz.underlying9 (by kernel_rfl) (by kernel_rfl)
 exact ⟨_, _, hv0⟩
theorem laid_rng {W : World} (h : laidMet Tryz.prog laidL W) : ∃ tp p, W.var? Tryz.prog "strconv.ErrRange" = some #[.iface tp p] := by
 have h1 := h.filter fun x => x.1 == "strconv.ErrRange"
 have e : (laidL.filter fun x => x.1 == "strconv.ErrRange") = [("strconv.ErrRange", .iface "*errors.errorString" (.ptr (.agg [.lit (.string [118, 97, 108, 117, 101, 32, 111, 117, 116, 32, 111, 102, 32, 114, 97, 110, 103, 101])])))] := by kernel_rfl
 rw [e] at h1
 obtain ⟨a0, s0, hv0, _⟩ := laid_sentinel (g := 2) (ti := 112) (tp := 190) (te := 192) (ts := 9) h1 (by kernel_rfl) (by kernel_rfl) Tryz.underlying112 row104 Tryz.underlying190 Tryz.underlying192 rfl rfl Tryz.underlying9 (by kernel_rfl) (by kernel_rfl)
 exact ⟨_, _, hv0⟩

theorem ld_of {W : World} (h : laidMetH Tryz.prog laidL W) (hS : W.ShapedOpen Tryz.prog) : LD W := ⟨laid_tab (noHandle h), Tryz.laysM146.s1_3 W hS, laid_syn (noHandle h), laid_rng (noHandle h)⟩
theorem laid_met (os : Os) (args : Array Value) : laidMet Tryz.prog laidL ((World.laidAll Tryz.prog os laidL).forCall (fun _ _ => 0) ⟨#[], args, []⟩).memory :=
 laidMet_laidAll args (by kernel_rfl) (by kernel_rfl)
theorem bulk_one {H : Type} (d : DataW H) : 1 ≤ Rows.uptoBulk d := by
 cases d with
 | lit l => cases l <;> simp [Rows.uptoBulk]
 | nil => simp [Rows.uptoBulk]
 | ptr d => simp [Rows.uptoBulk]
 | slice elems spare => simp [Rows.uptoBulk]
 | agg parts => simp [Rows.uptoBulk]
 | iface t d => simp [Rows.uptoBulk]
 | map entries => simp [Rows.uptoBulk]
 | held h => simp [Rows.uptoBulk]
def meas (H : Type) : Meas H := ⟨Rows.uptoBulk, Rows.uptoBulkAll, fun _ => by simp [Rows.uptoBulk], fun _ _ => by simp [Rows.uptoBulk], fun _ => by simp [Rows.uptoBulk], fun _ _ => by simp [Rows.uptoBulkAll], bulk_one⟩

end Go.Proofs.YtaniaihoodgmpaaGreatDoor

namespace Go.Proofs.YtaniaihoodgmpaaGreatDoor
open Go.RowKit Go.PK
set_option linter.unusedVariables false
set_option linter.unusedSimpArgs false

abbrev tyPatU : Ty (Int × Int × List Int × List Int × Unit) := tyCons tyI (tyCons tyI (tyCons (tySlice tyI) (tyCons (tySlice tyI) tyNil)))
theorem rdr_pat : Rdr Tryz.prog 26 tyPatU :=
 rdr_struct Tryz.underlying26 (by kernel_rfl) (by decide) (.cons rfl (rdr_i Tryz.underlying3 (by kernel_rfl)) (.cons rfl (rdr_i Tryz.underlying3 (by kernel_rfl)) (.cons rfl (rdr_slice Tryz.underlying22 (by kernel_rfl) (rdr_i Tryz.underlying3 (by kernel_rfl))) (.cons rfl (rdr_slice Tryz.underlying22 (by kernel_rfl) (rdr_i Tryz.underlying3 (by kernel_rfl))) (.nil _)))))
set_option maxRecDepth 100000 in
theorem top_pat {H : Type} {enc : TypeId × Value → H} {W : World} {base b0 : Nat} {sp : Nat → Bool} {held : Bool} {r : Reach} {v : Value} {d : DataW H} {ps : List MemPlace} (hval : Value.okWide Tryz.prog W r b0 26 v) (h : DataW.Trod enc Tryz.prog W base sp held 26 v d ps) :
  ∃ (p : Pat) (v1 v2 : Value), v = .agg #[.int .i64 p.first, .int .i64 p.days, v1, v2] ∧ patRd (fun _ => True) W p v1 v2 := by
 have key : ∃ cs y, v = .agg cs ∧ tyPatU.rd (fun _ => True) W cs.toList y := top_agg (T := tyPatU) Tryz.underlying26 (by rfl) rdr_pat hval h
 clear hval h
 obtain ⟨cs, ⟨y1, y2, y3, y4, _⟩, rfl, hy⟩ := key
 obtain ⟨_, _, e0, ⟨e1, k1⟩, _, _, rfl, ⟨e2, k2⟩, _, _, rfl, ⟨w1, e3, k3⟩, _, _, rfl, ⟨w2, e4, k4⟩, e5⟩ := hy
 dsimp only at e1 e2 e3 e4 k1 k2 k3 k4
 have e5 : _ = [] := e5
 refine ⟨⟨y1, y2, y3, y4⟩, w1, w2, ?_, k1, k2, k3, k4⟩
 rw [e1, e2, e3, e4, e5] at e0
 exact congrArg Value.agg (Array.ext' (by simpa using e0))

abbrev tyActU : Ty (Int × Int × Int × Bool × Bool × ByteArray × Unit) := tyCons tyI (tyCons tyI (tyCons tyI (tyCons tyBool (tyCons tyBool (tyCons (tyStrN 1048576) tyNil)))))
end Go.Proofs.YtaniaihoodgmpaaGreatDoor
