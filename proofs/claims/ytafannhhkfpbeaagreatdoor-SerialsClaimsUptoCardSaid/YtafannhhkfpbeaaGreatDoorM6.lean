/- Of the proofs of YtafannhhkfpbeaaGreatDoor: Vc Vd Ve Xx Xp Vf Vg, put together. -/
import Derived.Test.YtafannhhkfpbeaaGreatDoorM5
import Derived.Lay
import Derived.LaidSub
import Derived.Lib.LaidTab
import Derived.Stop.LaidErr
import Derived.Deep.DeepHandedRow
import Derived.SevenTiedAt
import Derived.Test.YtafannhhkfpbeaaGreatDoorM2
import Derived.Test.YtafannhhkfpbeaaGreatDoorM1
import Derived.Test.YtafannhhkfpbeaaGreatDoorM3
import Derived.Test.YtafannhhkfpbeaaGreatDoorM4
namespace Go.Proofs.YtafannhhkfpbeaaGreatDoor
open Go.RowKit Go.PK
set_option linter.unusedVariables false
set_option linter.unusedSimpArgs false
set_option maxRecDepth 100000 in
theorem c_rWrite {D : Nat → Prop} {v1 v2 : Value} (p : Pat) (w : World) (hp : patRd D w p v1 v2) :
    Calls Tryz.prog 18 #[.agg #[.int .i64 p.first, .int .i64 p.days, v1, v2]] w fun e w' => e = .returned (.string (writeQ p)) ∧ Later w w' := by
  obtain ⟨hp1, hp2, h1, h2⟩ := id hp
  obtain ⟨A1, c1, rfl, hlc1, hmx1, hB1⟩ := id h1
  obtain ⟨A2, c2, rfl, hlc2, hmx2, hB2⟩ := id h2
  obtain ⟨bL, oL, hL0, hLk⟩ := rd_blk h1
  obtain ⟨bS, oS, hS0, hSk⟩ := rd_blk h2
  refine enter (vs := [.agg #[.int .i64 p.first, .int .i64 p.days, .slice A1 p.lv.length c1, .slice A2 p.st.length c2]]) Tryz.func18 rfl Tryz.ntmps18 rfl ?_
  refine w_seq ?_
  refine rg_text ?_
  refine x_box rfl rfl rfl rfl ?_
  intro p1
  refine x_val rfl rfl rfl (v_assign rfl) ?_
  refine x_end ?_
  refine t_norm ?_
  refine w_seq ?_
  refine rg_text ?_
  refine x_val rfl rfl rfl (v_load_blk (e := 24) (fz := (0, 0)) (cs := #[Value.int .i64 p.first, Value.int .i64 p.days, Value.slice A1 p.lv.length c1, Value.slice A2 p.st.length c2]) Tryz.underlying24 rfl rfl (.head _) (by exact sz24)) ?_
  refine x_callb rfl rfl rfl Tryz.func9 (by kernel_rfl) rfl (fun w1 hw1 => c_rRight p w1 (hp.keep (Kept.later (hw1.base (by simp))))) ?_
  intro b7 hb7
  refine x_val rfl rfl rfl (v_assign rfl) ?_
  refine x_end ?_
  refine t_norm ?_
  refine w_seq ?_
  refine w_seq ?_
  refine rg_text ?_
  refine x_val rfl rfl rfl (v_move rfl) ?_
  refine x_bool rfl rfl rfl (v_not rfl) ?_
  intro b9 hb9
  refine x_end ?_
  refine t_norm ?_
  refine w_cond rfl (fun hc9 => ?_) (fun hc9 => ?_)
  · have hno : ¬rightQ p := fun h => by rw [hb9, hb7, decide_eq_true h] at hc9; simp at hc9
    refine w_seq ?_
    refine rg_text ?_
    refine x_val rfl rfl rfl (v_assign rfl) ?_
    refine x_end ?_
    refine t_norm ?_
    refine w_ret ?_
    refine t_ret ?_
    refine ret1 rfl rfl (fun w' hm => ⟨?_, hm.base (by simp)⟩)
    unfold writeQ; rw [if_neg hno]
  · have hq : rightQ p := by rw [hb9, hb7] at hc9; simpa using hc9
    have q1 := hq.1.1
    have q2 := hq.1.2.1
    have q3 := hq.1.2.2.1
    have hst0 : in64 (p.st.getD 0 0) := (hSk 0 (by omega)).2
    have hsz := wrTo_sz p (rd_in h2) (rd_in h1) hp2 q3 q1
    have hdy := hq.2.2.1
    refine w_skip ?_
    refine t_norm ?_
    refine w_seq ?_
    refine rg_draw 17 [(true, 0), (true, 1), (true, 2), (true, 3), (true, 4), (true, 5), (true, 6), (true, 7), (true, 8), (true, 9), (true, 10), (true, 11), (true, 12), (true, 13), (true, 14), (true, 15), (true, 16)] (by kernel_rfl) (by kernel_rfl) ?_
    refine x_val rfl rfl rfl (v_fieldAddr (off' := 1) Tryz.underlying24 rfl sz3 (by decide) rfl rfl) ?_
    refine x_val rfl rfl rfl (v_load Tryz.underlying3 rfl rfl (by first | exact at_ownL (.head _) rfl | exact at_ownL (.tail _ (.head _)) rfl | exact at_ownL (.tail _ (.tail _ (.head _))) rfl | (apply at_ownL; ((repeat (first | exact List.Mem.head _ | apply List.Mem.tail | apply List.mem_append_right))); rfl) | (refine at_ro (by first | exact .head _ | exact .tail _ (.head _) | exact .tail _ (.tail _ (.head _)) | simp) ?_ (by assumption); trivial))) ?_
    refine x_callv rfl rfl rfl Tryz.func46 (by kernel_rfl) rfl (fun w1 hw1 => c_Digits p.days w1 (by omega) hp2) ?_
    refine x_val rfl rfl rfl (v_sadd (s := sEvery) rfl rfl (by have ha := itoaS_size hp2; have hb0 := itoaS_size hst0; have hc0 := textR_sz p.first; simp only [ByteArray.size_append, show sEvery.size = 6 from rfl, show sFrom.size = 6 from rfl, show sColon.size = 2 from rfl]; omega)) ?_
    refine x_val rfl rfl rfl (v_sadd (u := sFrom) rfl rfl (by have ha := itoaS_size hp2; have hb0 := itoaS_size hst0; have hc0 := textR_sz p.first; simp only [ByteArray.size_append, show sEvery.size = 6 from rfl, show sFrom.size = 6 from rfl, show sColon.size = 2 from rfl]; omega)) ?_
    refine x_val rfl rfl rfl (v_fieldAddr (off' := 0) Tryz.underlying24 rfl sz3 (by decide) rfl rfl) ?_
    refine x_val rfl rfl rfl (v_load Tryz.underlying3 rfl rfl (by first | exact at_ownL (.head _) rfl | exact at_ownL (.tail _ (.head _)) rfl | exact at_ownL (.tail _ (.tail _ (.head _))) rfl | (apply at_ownL; ((repeat (first | exact List.Mem.head _ | apply List.Mem.tail | apply List.mem_append_right))); rfl) | (refine at_ro (by first | exact .head _ | exact .tail _ (.head _) | exact .tail _ (.tail _ (.head _)) | simp) ?_ (by assumption); trivial))) ?_
    refine x_callv rfl rfl rfl Tryz.func47 (by kernel_rfl) rfl (fun w1 hw1 => c20 _ w1 hp1) ?_
    refine x_val rfl rfl rfl (v_sadd rfl rfl (by have ha := itoaS_size hp2; have hb0 := itoaS_size hst0; have hc0 := textR_sz p.first; simp only [ByteArray.size_append, show sEvery.size = 6 from rfl, show sFrom.size = 6 from rfl, show sColon.size = 2 from rfl]; omega)) ?_
    refine x_val rfl rfl rfl (v_sadd (u := sColon) rfl rfl (by have ha := itoaS_size hp2; have hb0 := itoaS_size hst0; have hc0 := textR_sz p.first; simp only [ByteArray.size_append, show sEvery.size = 6 from rfl, show sFrom.size = 6 from rfl, show sColon.size = 2 from rfl]; omega)) ?_
    refine x_val rfl rfl rfl (v_fieldAddr (off' := 3) Tryz.underlying24 rfl sz22 (by decide) rfl rfl) ?_
    refine x_val rfl rfl rfl (v_load Tryz.underlying22 rfl rfl (by first | exact at_ownL (.head _) rfl | exact at_ownL (.tail _ (.head _)) rfl | exact at_ownL (.tail _ (.tail _ (.head _))) rfl | (apply at_ownL; ((repeat (first | exact List.Mem.head _ | apply List.Mem.tail | apply List.mem_append_right))); rfl) | (refine at_ro (by first | exact .head _ | exact .tail _ (.head _) | exact .tail _ (.tail _ (.head _)) | simp) ?_ (by assumption); trivial))) ?_
    refine x_val rfl rfl rfl (v_indexAddr (j := 0) Tryz.underlying22 sz3 (congrArg (fun A => some (Value.slice A p.st.length c2)) (hS0 (by omega)).1) rfl (by first | omega | (dsimp only; omega)) rfl) ?_
    refine x_val rfl rfl rfl (v_load Tryz.underlying3 rfl rfl (at_ro (.head _) trivial (by rw [Nat.mul_one]; exact (hSk (0) (by omega)).1))) ?_
    refine x_callv rfl rfl rfl Tryz.func46 (by kernel_rfl) rfl (fun w1 hw1 => c_Digits (p.st.getD 0 0) w1 hq.1.2.2.2.2.1 hst0) ?_
    refine x_val rfl rfl rfl (v_sadd rfl rfl (by have ha := itoaS_size hp2; have hb0 := itoaS_size hst0; have hc0 := textR_sz p.first; simp only [ByteArray.size_append, show sEvery.size = 6 from rfl, show sFrom.size = 6 from rfl, show sColon.size = 2 from rfl]; omega)) ?_
    refine x_val rfl rfl rfl (v_assign rfl) ?_
    refine x_end ?_
    refine t_norm ?_
    refine w_seq ?_
    refine w_seq ?_
    refine rg_text ?_
    refine x_val rfl rfl rfl (v_assign rfl) ?_
    refine x_end ?_
    refine t_norm ?_
    refine w_block ?_
    refine w_loop (σ := Nat) (fun k => k < p.lv.length) (fun k => [(1, .pointer (some ⟨p1, 0, none⟩)), (4, Value.string (wrTo p k)), (5, Value.int .i64 ((k + 1 : Nat) : Int))]) (fun k => [(p1, Obj.cells #[Value.int .i64 p.first, Value.int .i64 p.days, Value.slice A1 p.lv.length c1, Value.slice A2 p.st.length c2] 24)]) (fun k => [(w, fun _ => True)]) (fun k => p.lv.length - k) (0) (by omega) (l_start (by repeat (first | exact Sub.nil | refine Sub.cons rfl ?_)) (fun _ h => h)) ?_
    rintro k hk
    refine w_state ([(1, .pointer (some ⟨p1, 0, none⟩)), (4, Value.string (wrTo p k)), (5, Value.int .i64 ((k + 1 : Nat) : Int))]) ([(p1, Obj.cells #[Value.int .i64 p.first, Value.int .i64 p.days, Value.slice A1 p.lv.length c1, Value.slice A2 p.st.length c2] 24)]) ([(w, fun _ => True)]) ?_
    refine w_seq ?_
    refine w_seq ?_
    refine rg_text ?_
    refine x_val rfl rfl rfl (v_move rfl) ?_
    refine x_val rfl rfl rfl (v_fieldAddr (off' := 3) Tryz.underlying24 rfl sz22 (by decide) rfl rfl) ?_
    refine x_val rfl rfl rfl (v_load Tryz.underlying22 rfl rfl (by first | exact at_ownL (.head _) rfl | exact at_ownL (.tail _ (.head _)) rfl | exact at_ownL (.tail _ (.tail _ (.head _))) rfl | (apply at_ownL; ((repeat (first | exact List.Mem.head _ | apply List.Mem.tail | apply List.mem_append_right))); rfl) | (refine at_ro (by first | exact .head _ | exact .tail _ (.head _) | exact .tail _ (.tail _ (.head _)) | simp) ?_ (by assumption); trivial))) ?_
    refine x_val rfl rfl rfl (v_len_slice Tryz.underlying22 rfl) ?_
    refine x_bool rfl rfl rfl (v_lss rfl rfl) ?_
    intro b30 hb30
    refine x_end ?_
    refine t_norm ?_
    refine w_cond rfl (fun hc30 => ?_) (fun hc30 => ?_)
    · simp only [hb30, decide_eq_true_eq, decide_eq_false_iff_not, Bool.and_eq_true, Bool.or_eq_true, Bool.and_eq_false_iff, Bool.or_eq_false_iff, Bool.not_eq_true', Bool.not_eq_false', ne_eq, Decidable.not_not] at hc30
      have hkl : k + 1 < p.lv.length := by omega
      have hi1 : in64 (p.st.getD (k + 1) 0) := (hSk (k + 1) (by omega)).2
      have hi2 : in64 (p.lv.getD (k + 1) 0) := (hLk (k + 1) (by omega)).2
      have hz := hsz k (by omega)
      have ha := itoaS_size hi1
      have hb0 := itoaS_size hi2
      obtain ⟨a1, a2, a3, a4⟩ := hq.at (j := k + 1) (by omega) hkl
      refine w_skip ?_
      refine t_norm ?_
      refine w_seq ?_
      refine w_block ?_
      refine rg_draw 18 [(true, 0), (true, 1), (true, 2), (true, 3), (true, 4), (true, 5), (true, 6), (true, 7), (true, 8), (true, 9), (true, 10), (true, 11), (true, 12), (true, 13), (true, 14), (true, 15), (true, 16), (true, 17)] (by kernel_rfl) (by kernel_rfl) ?_
      refine x_val rfl rfl rfl (v_move rfl) ?_
      refine x_val rfl rfl rfl (v_sadd (u := sComma) rfl rfl (by rw [show sComma.size = 2 from rfl]; omega)) ?_
      refine x_val rfl rfl rfl (v_fieldAddr (off' := 3) Tryz.underlying24 rfl sz22 (by decide) rfl rfl) ?_
      refine x_val rfl rfl rfl (v_load Tryz.underlying22 rfl rfl (by first | exact at_ownL (.head _) rfl | exact at_ownL (.tail _ (.head _)) rfl | exact at_ownL (.tail _ (.tail _ (.head _))) rfl | (apply at_ownL; ((repeat (first | exact List.Mem.head _ | apply List.Mem.tail | apply List.mem_append_right))); rfl) | (refine at_ro (by first | exact .head _ | exact .tail _ (.head _) | exact .tail _ (.tail _ (.head _)) | simp) ?_ (by assumption); trivial))) ?_
      refine x_val rfl rfl rfl (v_move rfl) ?_
      refine x_val rfl rfl rfl (v_indexAddr Tryz.underlying22 sz3 (congrArg (fun A => some (Value.slice A p.st.length c2)) (hS0 (by omega)).1) rfl (by first | omega | (dsimp only; omega)) rfl) ?_
      refine x_val rfl rfl rfl (v_load Tryz.underlying3 rfl rfl (at_ro (.head _) trivial (by rw [Nat.mul_one]; exact (hSk (k + 1) (by omega)).1))) ?_
      refine x_callv rfl rfl rfl Tryz.func46 (by kernel_rfl) rfl (fun w1 hw1 => c_Digits (p.st.getD (k + 1) 0) w1 (by omega) hi1) ?_
      refine x_val rfl rfl rfl (v_sadd rfl rfl (by simp only [ByteArray.size_append, show sComma.size = 2 from rfl]; omega)) ?_
      refine x_val rfl rfl rfl (v_sadd (u := slash) rfl rfl (by simp only [ByteArray.size_append, show sComma.size = 2 from rfl, show slash.size = 1 from rfl]; omega)) ?_
      refine x_val rfl rfl rfl (v_fieldAddr (off' := 2) Tryz.underlying24 rfl sz22 (by decide) rfl rfl) ?_
      refine x_val rfl rfl rfl (v_load Tryz.underlying22 rfl rfl (by first | exact at_ownL (.head _) rfl | exact at_ownL (.tail _ (.head _)) rfl | exact at_ownL (.tail _ (.tail _ (.head _))) rfl | (apply at_ownL; ((repeat (first | exact List.Mem.head _ | apply List.Mem.tail | apply List.mem_append_right))); rfl) | (refine at_ro (by first | exact .head _ | exact .tail _ (.head _) | exact .tail _ (.tail _ (.head _)) | simp) ?_ (by assumption); trivial))) ?_
      refine x_val rfl rfl rfl (v_move rfl) ?_
      refine x_val rfl rfl rfl (v_indexAddr Tryz.underlying22 sz3 (congrArg (fun A => some (Value.slice A p.lv.length c1)) (hL0 (by omega)).1) rfl (by first | omega | (dsimp only; omega)) rfl) ?_
      refine x_val rfl rfl rfl (v_load Tryz.underlying3 rfl rfl (at_ro (.head _) trivial (by rw [Nat.mul_one]; exact (hLk (k + 1) (by omega)).1))) ?_
      refine x_callv rfl rfl rfl Tryz.func46 (by kernel_rfl) rfl (fun w1 hw1 => c_Digits (p.lv.getD (k + 1) 0) w1 (by omega) hi2) ?_
      refine x_val rfl rfl rfl (v_sadd rfl rfl (by simp only [ByteArray.size_append, show sComma.size = 2 from rfl, show slash.size = 1 from rfl]; omega)) ?_
      refine x_val (v := Value.string (wrTo p (k + 1))) rfl rfl rfl (by rw [show wrTo p (k + 1) = wrTo p k ++ sComma ++ itoaS (p.st.getD (k + 1) 0) ++ slash ++ itoaS (p.lv.getD (k + 1) 0) from by rw [wrTo]; simp only [ByteArray.append_assoc]]; exact v_assign rfl) ?_
      refine x_end ?_
      refine b_norm ?_
      refine t_norm ?_
      refine rg_text ?_
      refine x_val rfl rfl rfl (v_move rfl) ?_
      refine x_val rfl rfl rfl (v_addi rfl rfl rfl (by first | omega | (dsimp only; omega))) ?_
      refine x_val rfl rfl rfl (v_assign rfl) ?_
      refine x_end ?_
      exact l_norm (k + 1) (show k + 1 < p.lv.length by omega) (by omega) (by repeat (first | exact Sub.nil | refine Sub.cons rfl ?_)) (fun _ h => h)
    · simp only [hb30, decide_eq_true_eq, decide_eq_false_iff_not, Bool.and_eq_true, Bool.or_eq_true, Bool.and_eq_false_iff, Bool.or_eq_false_iff, Bool.not_eq_true', Bool.not_eq_false', ne_eq, Decidable.not_not] at hc30
      have ek : k = p.lv.length - 1 := by omega
      refine w_exit ?_
      refine t_exit ?_
      refine t_exit ?_
      refine b_hit ?_
      refine t_norm ?_
      refine w_seq ?_
      refine rg_text ?_
      refine x_val rfl rfl rfl (v_move rfl) ?_
      refine x_val rfl rfl rfl (v_assign rfl) ?_
      refine x_end ?_
      refine t_norm ?_
      refine w_ret ?_
      refine ret1 rfl rfl (fun w' hm => ⟨?_, hm.base (by simp)⟩)
      unfold writeQ; rw [if_pos hq, ← ek]
set_option maxRecDepth 100000 in
theorem c_SamePat {D1 D2 : Nat → Prop} {v1 v2 u1 u2 : Value} (p q : Pat) (w : World) (hp : patRd D1 w p v1 v2) (hq : patRd D2 w q u1 u2) :
    Calls Tryz.prog 19 #[.agg #[.int .i64 p.first, .int .i64 p.days, v1, v2], .agg #[.int .i64 q.first, .int .i64 q.days, u1, u2]] w fun e w' => e = .returned (.bool (decide (p = q))) ∧ Later w w' := by
  obtain ⟨hpa, hpb, hpc, hpd⟩ := id hp
  obtain ⟨hqa, hqb, hqc, hqd⟩ := id hq
  obtain ⟨Aa1, ca1, rfl, -⟩ := id hpc
  obtain ⟨Aa2, ca2, rfl, -⟩ := id hpd
  obtain ⟨Ab1, cb1, rfl, -⟩ := id hqc
  obtain ⟨Ab2, cb2, rfl, -⟩ := id hqd
  refine enter (vs := [.agg #[.int .i64 p.first, .int .i64 p.days, Value.slice Aa1 p.lv.length ca1, Value.slice Aa2 p.st.length ca2], .agg #[.int .i64 q.first, .int .i64 q.days, Value.slice Ab1 q.lv.length cb1, Value.slice Ab2 q.st.length cb2]]) Tryz.func19 rfl Tryz.ntmps19 rfl ?_
  refine w_seq ?_
  refine rg_text ?_
  refine x_box rfl rfl rfl rfl ?_
  intro p2
  refine x_box rfl rfl rfl rfl ?_
  intro p3
  refine x_val rfl rfl rfl (v_assign rfl) ?_
  refine x_end ?_
  refine t_norm ?_
  refine w_seq ?_
  refine rg_text ?_
  refine x_val rfl rfl rfl (v_fieldAddr (off' := 2) Tryz.underlying24 rfl sz22 (by decide) rfl rfl) ?_
  refine x_val rfl rfl rfl (v_load Tryz.underlying22 rfl rfl (by first | exact at_ownL (.head _) rfl | exact at_ownL (.tail _ (.head _)) rfl | exact at_ownL (.tail _ (.tail _ (.head _))) rfl | (apply at_ownL; ((repeat (first | exact List.Mem.head _ | apply List.Mem.tail | apply List.mem_append_right))); rfl) | (refine at_ro (by first | exact .head _ | exact .tail _ (.head _) | exact .tail _ (.tail _ (.head _)) | simp) ?_ (by assumption); trivial))) ?_
  refine x_val rfl rfl rfl (v_fieldAddr (off' := 2) Tryz.underlying24 rfl sz22 (by decide) rfl rfl) ?_
  refine x_val rfl rfl rfl (v_load Tryz.underlying22 rfl rfl (by first | exact at_ownL (.head _) rfl | exact at_ownL (.tail _ (.head _)) rfl | exact at_ownL (.tail _ (.tail _ (.head _))) rfl | (apply at_ownL; ((repeat (first | exact List.Mem.head _ | apply List.Mem.tail | apply List.mem_append_right))); rfl) | (refine at_ro (by first | exact .head _ | exact .tail _ (.head _) | exact .tail _ (.tail _ (.head _)) | simp) ?_ (by assumption); trivial))) ?_
  refine x_callb rfl rfl rfl Tryz.func30 (by kernel_rfl) rfl (fun w1 hw1 => c_Same w1 (hpc.keep (Kept.later (hw1.base (by simp)))) (hqc.keep (Kept.later (hw1.base (by simp))))) ?_
  intro b11 hb11
  refine x_val rfl rfl rfl (v_assign rfl) ?_
  refine x_end ?_
  refine t_norm ?_
  refine w_seq ?_
  refine rg_text ?_
  refine x_val rfl rfl rfl (v_fieldAddr (off' := 3) Tryz.underlying24 rfl sz22 (by decide) rfl rfl) ?_
  refine x_val rfl rfl rfl (v_load Tryz.underlying22 rfl rfl (by first | exact at_ownL (.head _) rfl | exact at_ownL (.tail _ (.head _)) rfl | exact at_ownL (.tail _ (.tail _ (.head _))) rfl | (apply at_ownL; ((repeat (first | exact List.Mem.head _ | apply List.Mem.tail | apply List.mem_append_right))); rfl) | (refine at_ro (by first | exact .head _ | exact .tail _ (.head _) | exact .tail _ (.tail _ (.head _)) | simp) ?_ (by assumption); trivial))) ?_
  refine x_val rfl rfl rfl (v_fieldAddr (off' := 3) Tryz.underlying24 rfl sz22 (by decide) rfl rfl) ?_
  refine x_val rfl rfl rfl (v_load Tryz.underlying22 rfl rfl (by first | exact at_ownL (.head _) rfl | exact at_ownL (.tail _ (.head _)) rfl | exact at_ownL (.tail _ (.tail _ (.head _))) rfl | (apply at_ownL; ((repeat (first | exact List.Mem.head _ | apply List.Mem.tail | apply List.mem_append_right))); rfl) | (refine at_ro (by first | exact .head _ | exact .tail _ (.head _) | exact .tail _ (.tail _ (.head _)) | simp) ?_ (by assumption); trivial))) ?_
  refine x_callb rfl rfl rfl Tryz.func30 (by kernel_rfl) rfl (fun w1 hw1 => c_Same w1 (hpd.keep (Kept.later (hw1.base (by simp)))) (hqd.keep (Kept.later (hw1.base (by simp))))) ?_
  intro b16 hb16
  refine x_val rfl rfl rfl (v_assign rfl) ?_
  refine x_end ?_
  refine t_norm ?_
  refine w_seq ?_
  refine rg_text ?_
  refine x_val rfl rfl rfl (v_move rfl) ?_
  refine x_val rfl rfl rfl (v_move rfl) ?_
  refine x_if [] rfl rfl rfl rfl rfl (fun hg => by obtain ⟨hg0, _⟩ := hg; subst hg0; (try simp only [List.cons_append, List.nil_append, gvl_nil, gvl_t, gvl_f]); exact v_move rfl) ?_
  refine x_bool rfl rfl rfl (v_and rfl rfl) ?_
  intro b20 hb20
  refine x_val rfl rfl rfl (v_move rfl) ?_
  refine x_if [] rfl rfl rfl rfl rfl (fun hg => by obtain ⟨hg0, _⟩ := hg; subst hg0; (try simp only [List.cons_append, List.nil_append, gvl_nil, gvl_t, gvl_f]); exact v_fieldAddr (off' := 0) Tryz.underlying24 rfl sz3 (by decide) rfl rfl) ?_
  refine x_if [] rfl rfl rfl rfl rfl (fun hg => by obtain ⟨hg0, _⟩ := hg; subst hg0; (try simp only [List.cons_append, List.nil_append, gvl_nil, gvl_t, gvl_f]); exact v_load Tryz.underlying3 rfl rfl (by first | exact at_ownL (.head _) rfl | exact at_ownL (.tail _ (.head _)) rfl | exact at_ownL (.tail _ (.tail _ (.head _))) rfl | (apply at_ownL; ((repeat (first | exact List.Mem.head _ | apply List.Mem.tail | apply List.mem_append_right))); rfl) | (refine at_ro (by first | exact .head _ | exact .tail _ (.head _) | exact .tail _ (.tail _ (.head _)) | simp) ?_ (by assumption); trivial))) ?_
  refine x_if [] rfl rfl rfl rfl rfl (fun hg => by obtain ⟨hg0, _⟩ := hg; subst hg0; (try simp only [List.cons_append, List.nil_append, gvl_nil, gvl_t, gvl_f]); exact v_fieldAddr (off' := 0) Tryz.underlying24 rfl sz3 (by decide) rfl rfl) ?_
  refine x_if [] rfl rfl rfl rfl rfl (fun hg => by obtain ⟨hg0, _⟩ := hg; subst hg0; (try simp only [List.cons_append, List.nil_append, gvl_nil, gvl_t, gvl_f]); exact v_load Tryz.underlying3 rfl rfl (by first | exact at_ownL (.head _) rfl | exact at_ownL (.tail _ (.head _)) rfl | exact at_ownL (.tail _ (.tail _ (.head _))) rfl | (apply at_ownL; ((repeat (first | exact List.Mem.head _ | apply List.Mem.tail | apply List.mem_append_right))); rfl) | (refine at_ro (by first | exact .head _ | exact .tail _ (.head _) | exact .tail _ (.tail _ (.head _)) | simp) ?_ (by assumption); trivial))) ?_
  refine x_ifb [] rfl rfl rfl rfl rfl (fun hg => by obtain ⟨hg0, _⟩ := hg; subst hg0; (try simp only [List.cons_append, List.nil_append, gvl_nil, gvl_t, gvl_f]); exact v_eql rfl rfl) ?_
  intro b26 hb26
  refine x_bool rfl rfl rfl (v_and rfl rfl) ?_
  intro b27 hb27
  refine x_val rfl rfl rfl (v_move rfl) ?_
  refine x_if [] rfl rfl rfl rfl rfl (fun hg => by obtain ⟨hg0, _⟩ := hg; subst hg0; (try simp only [List.cons_append, List.nil_append, gvl_nil, gvl_t, gvl_f]); exact v_fieldAddr (off' := 1) Tryz.underlying24 rfl sz3 (by decide) rfl rfl) ?_
  refine x_if [] rfl rfl rfl rfl rfl (fun hg => by obtain ⟨hg0, _⟩ := hg; subst hg0; (try simp only [List.cons_append, List.nil_append, gvl_nil, gvl_t, gvl_f]); exact v_load Tryz.underlying3 rfl rfl (by first | exact at_ownL (.head _) rfl | exact at_ownL (.tail _ (.head _)) rfl | exact at_ownL (.tail _ (.tail _ (.head _))) rfl | (apply at_ownL; ((repeat (first | exact List.Mem.head _ | apply List.Mem.tail | apply List.mem_append_right))); rfl) | (refine at_ro (by first | exact .head _ | exact .tail _ (.head _) | exact .tail _ (.tail _ (.head _)) | simp) ?_ (by assumption); trivial))) ?_
  refine x_if [] rfl rfl rfl rfl rfl (fun hg => by obtain ⟨hg0, _⟩ := hg; subst hg0; (try simp only [List.cons_append, List.nil_append, gvl_nil, gvl_t, gvl_f]); exact v_fieldAddr (off' := 1) Tryz.underlying24 rfl sz3 (by decide) rfl rfl) ?_
  refine x_if [] rfl rfl rfl rfl rfl (fun hg => by obtain ⟨hg0, _⟩ := hg; subst hg0; (try simp only [List.cons_append, List.nil_append, gvl_nil, gvl_t, gvl_f]); exact v_load Tryz.underlying3 rfl rfl (by first | exact at_ownL (.head _) rfl | exact at_ownL (.tail _ (.head _)) rfl | exact at_ownL (.tail _ (.tail _ (.head _))) rfl | (apply at_ownL; ((repeat (first | exact List.Mem.head _ | apply List.Mem.tail | apply List.mem_append_right))); rfl) | (refine at_ro (by first | exact .head _ | exact .tail _ (.head _) | exact .tail _ (.tail _ (.head _)) | simp) ?_ (by assumption); trivial))) ?_
  refine x_ifb [] rfl rfl rfl rfl rfl (fun hg => by obtain ⟨hg0, _⟩ := hg; subst hg0; (try simp only [List.cons_append, List.nil_append, gvl_nil, gvl_t, gvl_f]); exact v_eql rfl rfl) ?_
  intro b33 hb33
  refine x_bool rfl rfl rfl (v_and rfl rfl) ?_
  intro b34 hb34
  refine x_val rfl rfl rfl (v_assign rfl) ?_
  refine x_end ?_
  refine t_norm ?_
  refine w_ret ?_
  refine ret1 rfl rfl (fun w' hm => ⟨?_, hm.base (by simp)⟩)
  have e : b34 = decide (p = q) := by
    rw [Bool.eq_iff_iff, decide_eq_true_iff, hb34, hb33, hb27, hb26, hb20, hb16, hb11]
    simp only [Bool.and_eq_true, decide_eq_true_eq]
    obtain ⟨f1, d1, l1, s1⟩ := p
    obtain ⟨f2, d2, l2, s2⟩ := q
    dsimp only
    constructor
    · rintro ⟨⟨⟨rfl, rfl⟩, rfl⟩, rfl⟩; rfl
    · intro h; injection h with h1 h2 h3 h4; exact ⟨⟨⟨h3, h4⟩, h1⟩, h2⟩
  rw [e]

theorem readC_1 (t : ByteArray) (h : (readC t).2 = 0) : textR (readC t).1 = t := by
  unfold readC at h ⊢
  split
  · rename_i hc; exact hc.2.2
  · rename_i hc; rw [if_neg hc] at h; cases h
theorem readC_back {n : Int} (h : okDay n) : readC (textR n) = (n, 0) := by
  obtain ⟨y, m, d, h1, h2, h3, h4⟩ := textR_dig h
  have hr := civ_rng h
  have hc := civ_is h
  have dg : ∀ c : Int, ((digB c).toNat : Int) = 48 + c % 10 := fun c => by
    unfold digB
    rw [UInt8.toNat_ofNat_of_lt' (by show _ < 256; omega)]
    omega
  have ey : yO (textR n) = y := by
    rw [h1]
    show numO ⟨#[digB (y / 1000), digB (y / 100), digB (y / 10), digB y]⟩ = y
    rw [numO4 (isDig_digB _) (isDig_digB _) (isDig_digB _) (isDig_digB _), dg, dg, dg, dg]
    omega
  have em : mO (textR n) = m := by
    rw [h1]
    show numO ⟨#[digB (m / 10), digB m]⟩ = m
    rw [numO2 (isDig_digB _) (isDig_digB _), dg, dg]
    omega
  have ed : dO (textR n) = d := by
    rw [h1]
    show numO ⟨#[digB (d / 10), digB d]⟩ = d
    rw [numO2 (isDig_digB _) (isDig_digB _), dg, dg]
    omega
  have hv : validD y m d := by
    refine ⟨by omega, by omega, by omega, by omega, by omega, ?_⟩
    rw [h2, h3, h4]; exact hc.d2
  have hd : dayV y m d = n := by
    unfold dayV
    rw [if_pos hv, h2, h3, h4, Int.toNat_natCast]
    exact hc.is
  have hs : (textR n).size = 10 := by rw [h1]; rfl
  unfold readC
  rw [ey, em, ed, hd, if_pos ⟨hs, hv, rfl⟩]

end Go.Proofs.YtafannhhkfpbeaaGreatDoor

namespace Go.Proofs.YtafannhhkfpbeaaGreatDoor
open Go.RowKit Go.PK
set_option linter.unusedVariables false
set_option linter.unusedSimpArgs false
set_option maxHeartbeats 4000000 in
set_option maxRecDepth 100000 in
theorem c_rRead (s : ByteArray) (w : World) (hs : s.size ≤ 2000000) :
    Calls Tryz.prog 17 #[.string s] w fun e w' => ∃ v1 v2, e = .returned (.tuple #[.agg #[.int .i64 (readPR readC s).1.first, .int .i64 (readPR readC s).1.days, v1, v2], .int .i64 (readPR readC s).2]) ∧ Later w w' ∧ patRd (fun b => w.heap.size ≤ b) w' (readPR readC s).1 v1 v2 := by
  refine enter (vs := [.string s]) Tryz.func17 rfl Tryz.ntmps17 rfl ?_
  refine w_seq ?_
  refine rg_text ?_
  refine x_alloc rfl rfl rfl zr24 ?_
  intro p2
  refine x_val rfl rfl rfl (v_assign rfl) ?_
  refine x_end ?_
  refine t_norm ?_
  refine w_seq ?_
  refine rg_text ?_
  refine x_alloc rfl rfl rfl zr24 ?_
  intro p4
  refine x_end ?_
  refine t_norm ?_
  refine w_seq ?_
  refine rg_text ?_
  refine x_val rfl rfl rfl (v_move rfl) ?_
  refine x_callb rfl rfl rfl Tryz.func43 (by kernel_rfl) rfl (fun w1 hw1 => c_has s sEvery 0 w1 hs (by omega) (by decide)) ?_
  intro b23 hb23
  refine x_val rfl rfl rfl (v_assign rfl) ?_
  refine x_end ?_
  refine t_norm ?_
  refine w_seq ?_
  refine w_seq ?_
  refine rg_text ?_
  refine x_val rfl rfl rfl (v_move rfl) ?_
  refine x_bool rfl rfl rfl (v_not rfl) ?_
  intro b25 hb25
  refine x_end ?_
  refine t_norm ?_
  refine w_cond rfl (fun hc25 => ?_) (fun hc25 => ?_)
  · have h1 : hasR s 0 sEvery = false := by rw [hb25, hb23] at hc25; simpa using hc25
    refine w_seq ?_
    refine rg_text ?_
    refine x_val rfl rfl rfl (v_load_blk (e := 24) (fz := (0, 0)) (cs := #[Value.int .i64 0, Value.int .i64 0, Value.slice none 0 0, Value.slice none 0 0]) Tryz.underlying24 rfl rfl (.head _) (by exact sz24)) ?_
    refine x_store0 (cs := #[Value.int .i64 0, Value.int .i64 0, Value.slice none 0 0, Value.slice none 0 0]) (e := 24) (l2 := []) [(p4, Obj.cells #[Value.int .i64 0, Value.int .i64 0, Value.slice none 0 0, Value.slice none 0 0] 24)] rfl rfl rfl rfl sz24 rfl rfl ?_
    refine x_val rfl rfl rfl (v_assign rfl) ?_
    refine x_end ?_
    refine t_norm ?_
    refine w_ret ?_
    refine t_ret ?_
    have hno : readPR readC s = (zeroPat, 11) := by unfold readPR; rw [if_neg (fun h => by unfold okR25 hdR at h; simp only [Bool.and_eq_true, decide_eq_true_eq] at h; rw [h1] at h; simp at h)]
    refine retct rfl rfl rfl (.tail _ (.head _)) Tryz.underlying24 rfl sz24 (fun w' hm => ⟨.slice none 0 0, .slice none 0 0, by rw [hno]; rfl, hm.base (by simp), ?_⟩)
    rw [hno]
    exact ⟨by unfold in64; decide, by unfold in64; decide, ⟨none, 0, rfl, Nat.le_refl _, Nat.zero_le _, fun h => absurd h (by decide)⟩, ⟨none, 0, rfl, Nat.le_refl _, Nat.zero_le _, fun h => absurd h (by decide)⟩⟩
  · have h1 : hasR s 0 sEvery = true := by rw [hb25, hb23] at hc25; simpa using hc25
    refine w_skip ?_
    refine t_norm ?_
    refine w_seq ?_
    refine rg_text ?_
    have hv6 := val_at s 6
    refine x_val rfl rfl rfl (v_move rfl) ?_
    refine x_callv rfl rfl rfl Tryz.func44 (by kernel_rfl) rfl (fun w1 hw1 => c_value s 6 w1 hs (by omega)) ?_
    refine x_val rfl rfl rfl (v_move rfl) ?_
    refine x_val rfl rfl rfl (v_extract rfl rfl) ?_
    refine x_val rfl rfl rfl (v_extract rfl rfl) ?_
    refine x_bool rfl rfl rfl (v_extract rfl rfl) ?_
    intro b32 hb32
    refine x_val rfl rfl rfl (v_assign rfl) ?_
    refine x_val rfl rfl rfl (v_assign rfl) ?_
    refine x_val rfl rfl rfl (v_assign rfl) ?_
    refine x_end ?_
    refine t_norm ?_
    refine w_seq ?_
    refine rg_text ?_
    refine x_val rfl rfl rfl (v_move rfl) ?_
    refine x_val rfl rfl rfl (v_move rfl) ?_
    refine x_callb rfl rfl rfl Tryz.func43 (by kernel_rfl) rfl (fun w1 hw1 => c_has s sFrom (valR s 6).2.1 w1 hs (by omega) (by decide)) ?_
    intro b35 hb35
    refine x_val rfl rfl rfl (v_assign rfl) ?_
    refine x_end ?_
    refine t_norm ?_
    refine w_seq ?_
    refine w_seq ?_
    refine rg_text ?_
    refine x_val rfl rfl rfl (v_move rfl) ?_
    refine x_bool rfl rfl rfl (v_not rfl) ?_
    intro b37 hb37
    refine x_val rfl rfl rfl (v_move rfl) ?_
    refine x_if [] rfl rfl rfl rfl rfl (fun hg => by obtain ⟨hg0, _⟩ := hg; subst hg0; (try simp only [List.cons_append, List.nil_append, gvl_nil, gvl_t, gvl_f]); exact v_move rfl) ?_
    refine x_ifb [] rfl rfl rfl rfl rfl (fun hg => by obtain ⟨hg0, _⟩ := hg; subst hg0; (try simp only [List.cons_append, List.nil_append, gvl_nil, gvl_t, gvl_f]); exact v_not rfl) ?_
    intro b40 hb40
    refine x_bool rfl rfl rfl (v_or rfl rfl) ?_
    intro b41 hb41
    refine x_val rfl rfl rfl (v_move rfl) ?_
    refine x_if [] rfl rfl rfl rfl rfl (fun hg => by obtain ⟨hg0, _⟩ := hg; subst hg0; (try simp only [List.cons_append, List.nil_append, gvl_nil, gvl_t, gvl_f]); exact v_move rfl) ?_
    refine x_if [] (v := Value.int .i64 (((valR s 6).2.1 + 16 : Nat) : Int)) rfl rfl rfl rfl rfl (fun hg => by obtain ⟨hg0, _⟩ := hg; subst hg0; (try simp only [List.cons_append, List.nil_append, gvl_nil, gvl_t, gvl_f]); exact v_addi rfl rfl (by omega) (by omega)) ?_
    refine x_if [] rfl rfl rfl rfl rfl (fun hg => by obtain ⟨hg0, _⟩ := hg; subst hg0; (try simp only [List.cons_append, List.nil_append, gvl_nil, gvl_t, gvl_f]); exact v_move rfl) ?_
    refine x_if [] rfl rfl rfl rfl rfl (fun hg => by obtain ⟨hg0, _⟩ := hg; subst hg0; (try simp only [List.cons_append, List.nil_append, gvl_nil, gvl_t, gvl_f]); exact v_len_str Tryz.underlying9 rfl) ?_
    refine x_ifb [] rfl rfl rfl rfl rfl (fun hg => by obtain ⟨hg0, _⟩ := hg; subst hg0; (try simp only [List.cons_append, List.nil_append, gvl_nil, gvl_t, gvl_f]); exact v_gtr rfl rfl) ?_
    intro b47 hb47
    refine x_bool rfl rfl rfl (v_or rfl rfl) ?_
    intro b48 hb48
    refine x_end ?_
    refine t_norm ?_
    refine w_cond rfl (fun hc48 => ?_) (fun hc48 => ?_)
    · have h9 : ¬((valR s 6).2.2 = true ∧ hasR s (valR s 6).2.1 sFrom = true ∧ (valR s 6).2.1 + 16 ≤ s.size) := fun ⟨g1, g2, g3⟩ => by
        rw [hb48, hb47, hb41, hb40, hb37, hb35, hb32, g1, g2] at hc48
        simp at hc48; omega
      refine w_seq ?_
      refine rg_text ?_
      refine x_val rfl rfl rfl (v_load_blk (e := 24) (fz := (0, 0)) (cs := #[Value.int .i64 0, Value.int .i64 0, Value.slice none 0 0, Value.slice none 0 0]) Tryz.underlying24 rfl rfl (.head _) (by exact sz24)) ?_
      refine x_store0 (cs := #[Value.int .i64 0, Value.int .i64 0, Value.slice none 0 0, Value.slice none 0 0]) (e := 24) (l2 := []) [(p4, Obj.cells #[Value.int .i64 0, Value.int .i64 0, Value.slice none 0 0, Value.slice none 0 0] 24)] rfl rfl rfl rfl sz24 rfl rfl ?_
      refine x_val rfl rfl rfl (v_assign rfl) ?_
      refine x_end ?_
      refine t_norm ?_
      refine w_ret ?_
      refine t_ret ?_
      have hno : readPR readC s = (zeroPat, 11) := by unfold readPR; rw [if_neg (fun h => by unfold okR25 hdR at h; simp only [Bool.and_eq_true, decide_eq_true_eq] at h; exact h9 ⟨h.1.1.1.1.1.2, h.1.1.1.1.2, h.1.1.1.2⟩)]
      refine retct rfl rfl rfl (.tail _ (.head _)) Tryz.underlying24 rfl sz24 (fun w' hm => ⟨.slice none 0 0, .slice none 0 0, by rw [hno]; rfl, hm.base (by simp), ?_⟩)
      rw [hno]
      exact ⟨by unfold in64; decide, by unfold in64; decide, ⟨none, 0, rfl, Nat.le_refl _, Nat.zero_le _, fun h => absurd h (by decide)⟩, ⟨none, 0, rfl, Nat.le_refl _, Nat.zero_le _, fun h => absurd h (by decide)⟩⟩
    · have h9 : (valR s 6).2.2 = true ∧ hasR s (valR s 6).2.1 sFrom = true ∧ (valR s 6).2.1 + 16 ≤ s.size := by
        rw [hb48, hb47, hb41, hb40, hb37, hb35, hb32] at hc48
        simp only [Bool.or_eq_false_iff, Bool.not_eq_false', decide_eq_false_iff_not] at hc48
        exact ⟨hc48.1.1, hc48.1.2, by omega⟩
      obtain ⟨h2, h3, h4⟩ := h9
      refine w_skip ?_
      refine t_norm ?_
      refine w_seq ?_
      refine rg_text ?_
      refine x_val rfl rfl rfl (v_move rfl) ?_
      refine x_val rfl rfl rfl (v_move rfl) ?_
      refine x_val rfl rfl rfl (v_addi (c := (((valR s 6).2.1 + 6 : Nat) : Int)) rfl rfl (by omega) (by omega)) ?_
      refine x_val rfl rfl rfl (v_move rfl) ?_
      refine x_val rfl rfl rfl (v_addi (c := (((valR s 6).2.1 + 16 : Nat) : Int)) rfl rfl (by omega) (by omega)) ?_
      refine x_val rfl rfl rfl (v_cut (i := (valR s 6).2.1 + 6) (j := (valR s 6).2.1 + 16) Tryz.underlying9 rfl rfl rfl (by omega) (by omega)) ?_
      refine x_callv (v := .tuple #[.int .i64 (readC (dyR s)).1, .int .i64 (readC (dyR s)).2]) rfl rfl rfl Tryz.func45 (by kernel_rfl) rfl (fun w1 hw1 => by
        have h := c27 (dyR s) w1 (by unfold okS dyR; rw [ByteArray.size_extract]; omega)
        rw [← readC_eq] at h
        exact h) ?_
      refine x_val rfl rfl rfl (v_move rfl) ?_
      refine x_val rfl rfl rfl (v_extract rfl rfl) ?_
      refine x_val rfl rfl rfl (v_extract rfl rfl) ?_
      refine x_val rfl rfl rfl (v_assign rfl) ?_
      refine x_val rfl rfl rfl (v_assign rfl) ?_
      refine x_end ?_
      refine t_norm ?_
      refine w_seq ?_
      refine rg_text ?_
      refine x_val rfl rfl rfl (v_move rfl) ?_
      refine x_val rfl rfl rfl (v_move rfl) ?_
      refine x_val rfl rfl rfl (v_addi (c := (((valR s 6).2.1 + 16 : Nat) : Int)) rfl rfl (by omega) (by omega)) ?_
      refine x_callb rfl rfl rfl Tryz.func43 (by kernel_rfl) rfl (fun w1 hw1 => c_has s sColon ((valR s 6).2.1 + 16) w1 hs (by omega) (by decide)) ?_
      intro b63 hb63
      refine x_val rfl rfl rfl (v_assign rfl) ?_
      refine x_end ?_
      refine t_norm ?_
      refine w_seq ?_
      refine w_seq ?_
      refine rg_text ?_
      refine x_val rfl rfl rfl (v_move rfl) ?_
      refine x_bool rfl rfl rfl (v_neq rfl rfl) ?_
      intro b65 hb65
      refine x_val rfl rfl rfl (v_move rfl) ?_
      refine x_if [] rfl rfl rfl rfl rfl (fun hg => by obtain ⟨hg0, _⟩ := hg; subst hg0; (try simp only [List.cons_append, List.nil_append, gvl_nil, gvl_t, gvl_f]); exact v_move rfl) ?_
      refine x_ifb [] rfl rfl rfl rfl rfl (fun hg => by obtain ⟨hg0, _⟩ := hg; subst hg0; (try simp only [List.cons_append, List.nil_append, gvl_nil, gvl_t, gvl_f]); exact v_not rfl) ?_
      intro b68 hb68
      refine x_bool rfl rfl rfl (v_or rfl rfl) ?_
      intro b69 hb69
      refine x_end ?_
      refine t_norm ?_
      refine w_cond rfl (fun hc69 => ?_) (fun hc69 => ?_)
      · have h9 : ¬((readC (dyR s)).2 = 0 ∧ hasR s ((valR s 6).2.1 + 16) sColon = true) := fun ⟨g1, g2⟩ => by
          rw [hb69, hb68, hb65, hb63, g1, g2] at hc69
          simp at hc69
        refine w_seq ?_
        refine rg_text ?_
        refine x_val rfl rfl rfl (v_load_blk (e := 24) (fz := (0, 0)) (cs := #[Value.int .i64 0, Value.int .i64 0, Value.slice none 0 0, Value.slice none 0 0]) Tryz.underlying24 rfl rfl (.head _) (by exact sz24)) ?_
        refine x_store0 (cs := #[Value.int .i64 0, Value.int .i64 0, Value.slice none 0 0, Value.slice none 0 0]) (e := 24) (l2 := []) [(p4, Obj.cells #[Value.int .i64 0, Value.int .i64 0, Value.slice none 0 0, Value.slice none 0 0] 24)] rfl rfl rfl rfl sz24 rfl rfl ?_
        refine x_val rfl rfl rfl (v_assign rfl) ?_
        refine x_end ?_
        refine t_norm ?_
        refine w_ret ?_
        refine t_ret ?_
        have hno : readPR readC s = (zeroPat, 11) := by unfold readPR; rw [if_neg (fun h => by unfold okR25 hdR at h; simp only [Bool.and_eq_true, decide_eq_true_eq] at h; exact h9 ⟨h.1.1.2, h.1.2⟩)]
        refine retct rfl rfl rfl (.tail _ (.head _)) Tryz.underlying24 rfl sz24 (fun w' hm => ⟨.slice none 0 0, .slice none 0 0, by rw [hno]; rfl, hm.base (by simp), ?_⟩)
        rw [hno]
        exact ⟨by unfold in64; decide, by unfold in64; decide, ⟨none, 0, rfl, Nat.le_refl _, Nat.zero_le _, fun h => absurd h (by decide)⟩, ⟨none, 0, rfl, Nat.le_refl _, Nat.zero_le _, fun h => absurd h (by decide)⟩⟩
      · have h9 : (readC (dyR s)).2 = 0 ∧ hasR s ((valR s 6).2.1 + 16) sColon = true := by
          rw [hb69, hb68, hb65, hb63] at hc69
          simp only [Bool.or_eq_false_iff, Bool.not_eq_false', decide_eq_false_iff_not, ne_eq, Decidable.not_not] at hc69
          exact hc69
        obtain ⟨h5, h6⟩ := h9
        refine w_skip ?_
        refine t_norm ?_
        refine w_seq ?_
        refine rg_text ?_
        refine x_val rfl rfl rfl (v_move rfl) ?_
        refine x_val rfl rfl rfl (v_move rfl) ?_
        refine x_val rfl rfl rfl (v_addi (c := (((valR s 6).2.1 + 18 : Nat) : Int)) rfl rfl (by omega) (by omega)) ?_
        refine x_callv (v := .tuple #[.int .i64 (stR s).1, .int .i64 ((stR s).2.1 : Nat), .bool (stR s).2.2]) rfl rfl rfl Tryz.func44 (by kernel_rfl) rfl (fun w1 hw1 => c_value s ((valR s 6).2.1 + 18) w1 hs (by omega)) ?_
        refine x_val rfl rfl rfl (v_move rfl) ?_
        refine x_val rfl rfl rfl (v_extract rfl rfl) ?_
        refine x_val rfl rfl rfl (v_extract rfl rfl) ?_
        refine x_bool rfl rfl rfl (v_extract rfl rfl) ?_
        intro b78 hb78
        refine x_val rfl rfl rfl (v_assign rfl) ?_
        refine x_val rfl rfl rfl (v_assign rfl) ?_
        refine x_val rfl rfl rfl (v_assign rfl) ?_
        refine x_end ?_
        refine t_norm ?_
        refine w_seq ?_
        refine w_seq ?_
        refine rg_text ?_
        refine x_val rfl rfl rfl (v_move rfl) ?_
        refine x_bool rfl rfl rfl (v_not rfl) ?_
        intro b80 hb80
        refine x_end ?_
        refine t_norm ?_
        refine w_cond rfl (fun hc80 => ?_) (fun hc80 => ?_)
        · have h7 : (stR s).2.2 = false := by rw [hb80, hb78] at hc80; simpa using hc80
          refine w_seq ?_
          refine rg_text ?_
          refine x_val rfl rfl rfl (v_load_blk (e := 24) (fz := (0, 0)) (cs := #[Value.int .i64 0, Value.int .i64 0, Value.slice none 0 0, Value.slice none 0 0]) Tryz.underlying24 rfl rfl (.head _) (by exact sz24)) ?_
          refine x_store0 (cs := #[Value.int .i64 0, Value.int .i64 0, Value.slice none 0 0, Value.slice none 0 0]) (e := 24) (l2 := []) [(p4, Obj.cells #[Value.int .i64 0, Value.int .i64 0, Value.slice none 0 0, Value.slice none 0 0] 24)] rfl rfl rfl rfl sz24 rfl rfl ?_
          refine x_val rfl rfl rfl (v_assign rfl) ?_
          refine x_end ?_
          refine t_norm ?_
          refine w_ret ?_
          refine t_ret ?_
          have hno : readPR readC s = (zeroPat, 11) := by unfold readPR; rw [if_neg (fun h => by unfold okR25 hdR at h; simp only [Bool.and_eq_true, decide_eq_true_eq] at h; rw [h7] at h; simp at h)]
          refine retct rfl rfl rfl (.tail _ (.head _)) Tryz.underlying24 rfl sz24 (fun w' hm => ⟨.slice none 0 0, .slice none 0 0, by rw [hno]; rfl, hm.base (by simp), ?_⟩)
          rw [hno]
          exact ⟨by unfold in64; decide, by unfold in64; decide, ⟨none, 0, rfl, Nat.le_refl _, Nat.zero_le _, fun h => absurd h (by decide)⟩, ⟨none, 0, rfl, Nat.le_refl _, Nat.zero_le _, fun h => absurd h (by decide)⟩⟩
        · have h7 : (stR s).2.2 = true := by rw [hb80, hb78] at hc80; simpa using hc80
          have hn0 : (stR s).2.1 ≤ s.size := (val_ok h7).2.2.2.1
          have hok : okR25 readC s = true := by unfold okR25 hdR; rw [h1, h2, h3, decide_eq_true h4, decide_eq_true h5, h6, h7]; rfl
          refine w_skip ?_
          refine t_norm ?_
          refine w_seq ?_
          refine rg_text ?_
          refine x_val rfl rfl rfl (v_move rfl) ?_
          refine x_val rfl rfl rfl (v_move rfl) ?_
          refine x_buildSliceL (cs := [Value.int .i64 0]) rfl rfl rfl Tryz.underlying22 sz3 zr3 rfl rfl rfl ?_
          intro p84
          refine x_val rfl rfl rfl (v_move rfl) ?_
          refine x_buildSliceL (cs := [Value.int .i64 (stR s).1]) rfl rfl rfl Tryz.underlying22 sz3 zr3 rfl rfl rfl ?_
          intro p86
          refine x_val (v := Value.agg #[.int .i64 (readC (dyR s)).1, .int .i64 (valR s 6).1, .slice (some ⟨p84, 0, none⟩) 1 1, .slice (some ⟨p86, 0, none⟩) 1 1]) rfl rfl rfl (v_buildL (places := [(0, 1), (1, 1), (2, 1), (3, 1)]) Tryz.underlying24 zr24 (by kernel_rfl) rfl rfl) ?_
          refine x_alloc rfl rfl rfl zr24 ?_
          intro p13
          refine x_store0 [] rfl rfl rfl rfl sz24 rfl rfl ?_
          refine x_end ?_
          refine t_norm ?_
          refine w_seq ?_
          refine w_block ?_
          refine w_loop (σ := RowS × RowS × Nat × Nat × List (Int × Int)) (fun x => x.2.2.1 ≤ s.size ∧ s.size - x.2.2.1 < x.2.2.2.1 ∧ x.2.2.2.2.length ≤ x.2.2.1 ∧ rowOK 1 x.1 (x.2.2.2.2.length + 1) (((stR s).1 :: x.2.2.2.2.map (·.1)).map (Value.int .i64)) ∧ rowOK 1 x.2.1 (x.2.2.2.2.length + 1) (((0 : Int) :: x.2.2.2.2.map (·.2)).map (Value.int .i64)) ∧ tailR s (s.size + 1) (stR s).2.1 = (tailR s x.2.2.2.1 x.2.2.1).map (x.2.2.2.2 ++ ·) ∧ ∀ z ∈ x.2.2.2.2, in64 z.1 ∧ in64 z.2) (fun x => [(0, Value.string s), (2, .pointer (some ⟨p2, 0, none⟩)), (4, .pointer (some ⟨p4, 0, none⟩)), (12, Value.int .i64 (x.2.2.1 : Nat)), (13, .pointer (some ⟨p13, 0, none⟩))]) (fun x => (p13, Obj.cells [Value.int .i64 (readC (dyR s)).1, Value.int .i64 (valR s 6).1, rowV x.2.1 (x.2.2.2.2.length + 1), rowV x.1 (x.2.2.2.2.length + 1)].toArray 24 (0, 0)) :: (rowO 3 x.1 ++ (rowO 3 x.2.1 ++ [(p4, Obj.cells #[Value.int .i64 0, Value.int .i64 0, Value.slice none 0 0, Value.slice none 0 0] 24), (p2, Obj.cells #[Value.int .i64 0, Value.int .i64 0, Value.slice none 0 0, Value.slice none 0 0] 24)]))) (fun x => [(w, fun _ => True)]) (fun x => s.size - x.2.2.1) ((some (p86, [Value.int .i64 (stR s).1], 1), some (p84, [Value.int .i64 0], 1), (stR s).2.1, s.size + 1, [])) (⟨hn0, by dsimp only; omega, Nat.zero_le _, rowOK_lit (n := 1) (cs := [Value.int .i64 (stR s).1]) rfl (by decide), rowOK_lit (n := 1) (cs := [Value.int .i64 0]) rfl (by decide), (by dsimp only; cases tailR s (s.size + 1) (stR s).2.1 <;> rfl), fun z hz => by cases hz⟩) (l_start (by repeat (first | exact Sub.nil | refine Sub.cons rfl ?_)) (fun _ h => h)) ?_
          rintro ⟨R, S, nx, f, l⟩ ⟨hnx, hf, hll, hR, hS, hT, hin⟩
          refine w_state ([(0, Value.string s), (2, .pointer (some ⟨p2, 0, none⟩)), (4, .pointer (some ⟨p4, 0, none⟩)), (12, Value.int .i64 (nx : Nat)), (13, .pointer (some ⟨p13, 0, none⟩))]) ((p13, Obj.cells [Value.int .i64 (readC (dyR s)).1, Value.int .i64 (valR s 6).1, rowV S (l.length + 1), rowV R (l.length + 1)].toArray 24 (0, 0)) :: (rowO 3 R ++ (rowO 3 S ++ [(p4, Obj.cells #[Value.int .i64 0, Value.int .i64 0, Value.slice none 0 0, Value.slice none 0 0] 24), (p2, Obj.cells #[Value.int .i64 0, Value.int .i64 0, Value.slice none 0 0, Value.slice none 0 0] 24)]))) ([(w, fun _ => True)]) ?_
          dsimp only at hnx hf hll hR hS hT hin
          refine w_seq ?_
          refine w_seq ?_
          refine rg_text ?_
          refine x_val rfl rfl rfl (v_move rfl) ?_
          refine x_val rfl rfl rfl (v_move rfl) ?_
          refine x_val rfl rfl rfl (v_len_str Tryz.underlying9 rfl) ?_
          refine x_bool rfl rfl rfl (v_lss rfl rfl) ?_
          intro b91 hb91
          refine x_end ?_
          refine t_norm ?_
          refine w_cond rfl (fun hc91 => ?_) (fun hc91 => ?_)
          · simp only [hb91, decide_eq_true_eq, decide_eq_false_iff_not, Bool.and_eq_true, Bool.or_eq_true, Bool.and_eq_false_iff, Bool.or_eq_false_iff, Bool.not_eq_true', Bool.not_eq_false', ne_eq, Decidable.not_not] at hc91
            have hlt : nx < s.size := by omega
            obtain ⟨f, rfl⟩ : ∃ g, f = g + 1 := ⟨f - 1, by omega⟩
            rw [tail_step hlt] at hT
            refine w_skip ?_
            refine t_norm ?_
            refine w_block ?_
            refine w_seq ?_
            refine rg_text ?_
            refine x_val rfl rfl rfl (v_move rfl) ?_
            refine x_val rfl rfl rfl (v_move rfl) ?_
            refine x_callb rfl rfl rfl Tryz.func43 (by kernel_rfl) rfl (fun w1 hw1 => c_has s sComma nx w1 hs (by omega) (by decide)) ?_
            intro b94 hb94
            have hva := val_at s (nx + 2)
            have hvb := val_at s ((valR s (nx + 2)).2.1 + 1)
            have hvc := val_rng s (nx + 2)
            have hvd := val_rng s ((valR s (nx + 2)).2.1 + 1)
            refine x_val rfl rfl rfl (v_assign rfl) ?_
            refine x_end ?_
            refine t_norm ?_
            refine w_seq ?_
            refine rg_text ?_
            refine x_val rfl rfl rfl (v_move rfl) ?_
            refine x_val rfl rfl rfl (v_move rfl) ?_
            refine x_val rfl rfl rfl (v_addi (c := ((nx + 2 : Nat) : Int)) rfl rfl (by omega) (by omega)) ?_
            refine x_callv rfl rfl rfl Tryz.func44 (by kernel_rfl) rfl (fun w1 hw1 => c_value s (nx + 2) w1 hs (by omega)) ?_
            refine x_val rfl rfl rfl (v_move rfl) ?_
            refine x_val rfl rfl rfl (v_extract rfl rfl) ?_
            refine x_val rfl rfl rfl (v_extract rfl rfl) ?_
            refine x_bool rfl rfl rfl (v_extract rfl rfl) ?_
            intro b102 hb102
            refine x_val rfl rfl rfl (v_assign rfl) ?_
            refine x_val rfl rfl rfl (v_assign rfl) ?_
            refine x_val rfl rfl rfl (v_assign rfl) ?_
            refine x_end ?_
            refine t_norm ?_
            refine w_seq ?_
            refine rg_text ?_
            refine x_val rfl rfl rfl (v_move rfl) ?_
            refine x_val rfl rfl rfl (v_move rfl) ?_
            refine x_callb rfl rfl rfl Tryz.func43 (by kernel_rfl) rfl (fun w1 hw1 => c_has s slash (valR s (nx + 2)).2.1 w1 hs (by omega) (by decide)) ?_
            intro b105 hb105
            refine x_val rfl rfl rfl (v_assign rfl) ?_
            refine x_end ?_
            refine t_norm ?_
            refine w_seq ?_
            refine rg_text ?_
            refine x_val rfl rfl rfl (v_move rfl) ?_
            refine x_val rfl rfl rfl (v_move rfl) ?_
            refine x_val rfl rfl rfl (v_addi (c := (((valR s (nx + 2)).2.1 + 1 : Nat) : Int)) rfl rfl (by omega) (by omega)) ?_
            refine x_callv rfl rfl rfl Tryz.func44 (by kernel_rfl) rfl (fun w1 hw1 => c_value s ((valR s (nx + 2)).2.1 + 1) w1 hs (by omega)) ?_
            refine x_val rfl rfl rfl (v_move rfl) ?_
            refine x_val rfl rfl rfl (v_extract rfl rfl) ?_
            refine x_val rfl rfl rfl (v_extract rfl rfl) ?_
            refine x_bool rfl rfl rfl (v_extract rfl rfl) ?_
            intro b113 hb113
            refine x_val rfl rfl rfl (v_assign rfl) ?_
            refine x_val rfl rfl rfl (v_assign rfl) ?_
            refine x_val rfl rfl rfl (v_assign rfl) ?_
            refine x_end ?_
            refine t_norm ?_
            refine w_seq ?_
            refine w_seq ?_
            refine rg_text ?_
            refine x_val rfl rfl rfl (v_move rfl) ?_
            refine x_bool rfl rfl rfl (v_not rfl) ?_
            intro b115 hb115
            refine x_val rfl rfl rfl (v_move rfl) ?_
            refine x_if [] rfl rfl rfl rfl rfl (fun hg => by obtain ⟨hg0, _⟩ := hg; subst hg0; (try simp only [List.cons_append, List.nil_append, gvl_nil, gvl_t, gvl_f]); exact v_move rfl) ?_
            refine x_ifb [] rfl rfl rfl rfl rfl (fun hg => by obtain ⟨hg0, _⟩ := hg; subst hg0; (try simp only [List.cons_append, List.nil_append, gvl_nil, gvl_t, gvl_f]); exact v_not rfl) ?_
            intro b118 hb118
            refine x_bool rfl rfl rfl (v_or rfl rfl) ?_
            intro b119 hb119
            refine x_val rfl rfl rfl (v_move rfl) ?_
            refine x_if [] rfl rfl rfl rfl rfl (fun hg => by obtain ⟨hg0, _⟩ := hg; subst hg0; (try simp only [List.cons_append, List.nil_append, gvl_nil, gvl_t, gvl_f]); exact v_move rfl) ?_
            refine x_ifb [] rfl rfl rfl rfl rfl (fun hg => by obtain ⟨hg0, _⟩ := hg; subst hg0; (try simp only [List.cons_append, List.nil_append, gvl_nil, gvl_t, gvl_f]); exact v_not rfl) ?_
            intro b122 hb122
            refine x_bool rfl rfl rfl (v_or rfl rfl) ?_
            intro b123 hb123
            refine x_val rfl rfl rfl (v_move rfl) ?_
            refine x_if [] rfl rfl rfl rfl rfl (fun hg => by obtain ⟨hg0, _⟩ := hg; subst hg0; (try simp only [List.cons_append, List.nil_append, gvl_nil, gvl_t, gvl_f]); exact v_move rfl) ?_
            refine x_ifb [] rfl rfl rfl rfl rfl (fun hg => by obtain ⟨hg0, _⟩ := hg; subst hg0; (try simp only [List.cons_append, List.nil_append, gvl_nil, gvl_t, gvl_f]); exact v_not rfl) ?_
            intro b126 hb126
            refine x_bool rfl rfl rfl (v_or rfl rfl) ?_
            intro b127 hb127
            refine x_end ?_
            refine t_norm ?_
            refine w_cond rfl (fun hc127 => ?_) (fun hc127 => ?_)
            · have h9 : ¬(hasR s nx sComma && (valR s (nx + 2)).2.2 && hasR s (valR s (nx + 2)).2.1 slash && (valR s ((valR s (nx + 2)).2.1 + 1)).2.2) = true := fun h => by
                simp only [Bool.and_eq_true] at h
                obtain ⟨⟨⟨g1, g2⟩, g3⟩, g4⟩ := h
                rw [hb127, hb126, hb123, hb122, hb119, hb118, hb115, hb94, hb102, hb105, hb113, g1, g2, g3, g4] at hc127
                simp at hc127
              rw [if_neg h9] at hT
              refine w_seq ?_
              refine rg_text ?_
              refine x_val rfl rfl rfl (v_load_blk (e := 24) (fz := (0, 0)) (cs := #[Value.int .i64 0, Value.int .i64 0, Value.slice none 0 0, Value.slice none 0 0]) Tryz.underlying24 rfl rfl (by simp) (by exact sz24)) ?_
              refine x_store0 (cs := #[Value.int .i64 0, Value.int .i64 0, Value.slice none 0 0, Value.slice none 0 0]) (e := 24) (l2 := []) ((p13, Obj.cells [Value.int .i64 (readC (dyR s)).1, Value.int .i64 (valR s 6).1, rowV S (l.length + 1), rowV R (l.length + 1)].toArray 24 (0, 0)) :: (rowO 3 R ++ (rowO 3 S ++ [(p4, Obj.cells #[Value.int .i64 0, Value.int .i64 0, Value.slice none 0 0, Value.slice none 0 0] 24)]))) rfl rfl rfl (by simp [List.append_assoc]) sz24 rfl rfl ?_
              refine x_val rfl rfl rfl (v_assign rfl) ?_
              refine x_end ?_
              refine t_norm ?_
              refine w_ret ?_
              refine t_ret ?_
              refine b_ret ?_
              refine t_ret ?_
              refine b_ret ?_
              refine t_ret ?_
              have hT : tailR s (s.size + 1) (stR s).2.1 = none := hT
              have hno : readPR readC s = (zeroPat, 11) := by unfold readPR; rw [if_pos hok, hT]
              refine retct rfl rfl rfl (List.mem_append_right _ (.head _)) Tryz.underlying24 rfl sz24 (fun w' hm => ⟨.slice none 0 0, .slice none 0 0, by rw [hno]; rfl, hm.base (by simp), ?_⟩)
              rw [hno]
              exact ⟨by unfold in64; decide, by unfold in64; decide, ⟨none, 0, rfl, Nat.le_refl _, Nat.zero_le _, fun h => absurd h (by decide)⟩, ⟨none, 0, rfl, Nat.le_refl _, Nat.zero_le _, fun h => absurd h (by decide)⟩⟩
            · have h9 : (hasR s nx sComma && (valR s (nx + 2)).2.2 && hasR s (valR s (nx + 2)).2.1 slash && (valR s ((valR s (nx + 2)).2.1 + 1)).2.2) = true := by
                rw [hb127, hb126, hb123, hb122, hb119, hb118, hb115, hb94, hb102, hb105, hb113] at hc127
                simp only [Bool.or_eq_false_iff, Bool.not_eq_false'] at hc127
                obtain ⟨⟨⟨g1, g2⟩, g3⟩, g4⟩ := hc127
                rw [g1, g2, g3, g4]; rfl
              rw [if_pos h9, opt_map_cons] at hT
              have hve : (valR s ((valR s (nx + 2)).2.1 + 1)).2.1 ≤ s.size := by simp only [Bool.and_eq_true] at h9; exact (val_ok h9.2).2.2.2.1
              obtain ⟨ya, hya⟩ : ∃ y, (valR s (nx + 2)).1 = y := ⟨_, rfl⟩
              obtain ⟨yb, hyb⟩ : ∃ y, (valR s ((valR s (nx + 2)).2.1 + 1)).1 = y := ⟨_, rfl⟩
              rw [hya] at hvc hT
              rw [hyb] at hvd hT
              refine w_skip ?_
              refine t_norm ?_
              refine w_seq ?_
              refine rg_text ?_
              refine x_val rfl rfl rfl (v_fieldAddr (off' := 3) Tryz.underlying24 rfl sz22 (by decide) rfl rfl) ?_
              refine x_val rfl rfl rfl (v_load Tryz.underlying22 rfl rfl (at_ownL (vs := [Value.int .i64 (readC (dyR s)).1, Value.int .i64 (valR s 6).1, rowV S (l.length + 1), rowV R (l.length + 1)]) (.head _) rfl)) ?_
              refine x_val (v := Value.int .i64 ya) rfl rfl rfl (by rw [← hya]; exact v_move rfl) ?_
              refine x_buildSliceL (cs := [Value.int .i64 ya]) rfl rfl rfl Tryz.underlying22 sz3 zr3 rfl rfl rfl ?_
              intro p132
              refine x_append (e := 3) [(p132, Obj.cells [Value.int .i64 ya].toArray 3), (p13, Obj.cells [Value.int .i64 (readC (dyR s)).1, Value.int .i64 (valR s 6).1, rowV S (l.length + 1), rowV R (l.length + 1)].toArray 24 (0, 0))] (l2 := rowO 3 S ++ [(p4, Obj.cells #[Value.int .i64 0, Value.int .i64 0, Value.slice none 0 0, Value.slice none 0 0] 24), (p2, Obj.cells #[Value.int .i64 0, Value.int .i64 0, Value.slice none 0 0, Value.slice none 0 0] 24)]) R (len := l.length + 1) (xs := ((stR s).1 :: l.map (·.1)).map (Value.int .i64)) rfl rfl rfl rfl (by simp [List.append_assoc]) hR Tryz.underlying22 ap3 rfl rfl (m := 1) (news := [Value.int .i64 ya]) (fun i hi => at_ownL (vs := [Value.int .i64 ya]) (.head _) (by rw [Nat.zero_add]; exact List.getElem?_eq_getElem hi)) rfl (by simp only [maxLen]; omega) (by omega) ?_
              intro R' hR'
              refine x_val rfl rfl rfl (v_fieldAddr (off' := 3) Tryz.underlying24 rfl sz22 (by decide) rfl rfl) ?_
              refine x_store (cs := [Value.int .i64 (readC (dyR s)).1, Value.int .i64 (valR s 6).1, rowV S (l.length + 1), rowV R (l.length + 1)]) (off := 3) (e := 24) (l2 := (rowO 3 R' ++ (rowO 3 S ++ [(p4, Obj.cells #[Value.int .i64 0, Value.int .i64 0, Value.slice none 0 0, Value.slice none 0 0] 24), (p2, Obj.cells #[Value.int .i64 0, Value.int .i64 0, Value.slice none 0 0, Value.slice none 0 0] 24)]))) [(p132, Obj.cells [Value.int .i64 ya].toArray 3)] rfl rfl rfl (by simp [List.append_assoc]) sz22 rfl (by show 4 ≤ 4; decide) ?_
              refine x_end ?_
              refine t_norm ?_
              refine w_seq ?_
              refine x_memW (own' := (p13, Obj.cells [Value.int .i64 (readC (dyR s)).1, Value.int .i64 (valR s 6).1, rowV S (l.length + 1), rowV R' (l.length + 1 + 1)].toArray 24 (0, 0)) :: (rowO 3 R' ++ (rowO 3 S ++ [(p4, Obj.cells #[Value.int .i64 0, Value.int .i64 0, Value.slice none 0 0, Value.slice none 0 0] 24), (p2, Obj.cells #[Value.int .i64 0, Value.int .i64 0, Value.slice none 0 0, Value.slice none 0 0] 24)]))) (ro' := [(w, fun _ => True)]) (fun _ h => h.less (List.sublist_cons_self _ _) (fun _ h => h)) ?_
              refine rg_text ?_
              refine x_val rfl rfl rfl (v_fieldAddr (off' := 2) Tryz.underlying24 rfl sz22 (by decide) rfl rfl) ?_
              refine x_val rfl rfl rfl (v_load Tryz.underlying22 rfl rfl (at_ownL (vs := [Value.int .i64 (readC (dyR s)).1, Value.int .i64 (valR s 6).1, rowV S (l.length + 1), rowV R' (l.length + 1 + 1)]) (.head _) rfl)) ?_
              refine x_val (v := Value.int .i64 yb) rfl rfl rfl (by rw [← hyb]; exact v_move rfl) ?_
              refine x_buildSliceL (cs := [Value.int .i64 yb]) rfl rfl rfl Tryz.underlying22 sz3 zr3 rfl rfl rfl ?_
              intro p138
              refine x_append (e := 3) ([(p138, Obj.cells [Value.int .i64 yb].toArray 3), (p13, Obj.cells [Value.int .i64 (readC (dyR s)).1, Value.int .i64 (valR s 6).1, rowV S (l.length + 1), rowV R' (l.length + 1 + 1)].toArray 24 (0, 0))] ++ rowO 3 R') (l2 := [(p4, Obj.cells #[Value.int .i64 0, Value.int .i64 0, Value.slice none 0 0, Value.slice none 0 0] 24), (p2, Obj.cells #[Value.int .i64 0, Value.int .i64 0, Value.slice none 0 0, Value.slice none 0 0] 24)]) S (len := l.length + 1) (xs := ((0 : Int) :: l.map (·.2)).map (Value.int .i64)) rfl rfl rfl rfl (by simp [List.append_assoc]) hS Tryz.underlying22 ap3 rfl rfl (m := 1) (news := [Value.int .i64 yb]) (fun i hi => at_ownL (vs := [Value.int .i64 yb]) (.head _) (by rw [Nat.zero_add]; exact List.getElem?_eq_getElem hi)) rfl (by simp only [maxLen]; omega) (by omega) ?_
              intro S' hS'
              refine x_val rfl rfl rfl (v_fieldAddr (off' := 2) Tryz.underlying24 rfl sz22 (by decide) rfl rfl) ?_
              refine x_store (cs := [Value.int .i64 (readC (dyR s)).1, Value.int .i64 (valR s 6).1, rowV S (l.length + 1), rowV R' (l.length + 1 + 1)]) (off := 2) (e := 24) (l2 := (rowO 3 R' ++ (rowO 3 S' ++ [(p4, Obj.cells #[Value.int .i64 0, Value.int .i64 0, Value.slice none 0 0, Value.slice none 0 0] 24), (p2, Obj.cells #[Value.int .i64 0, Value.int .i64 0, Value.slice none 0 0, Value.slice none 0 0] 24)]))) [(p138, Obj.cells [Value.int .i64 yb].toArray 3)] rfl rfl rfl (by simp [List.append_assoc]) sz22 rfl (by show 3 ≤ 4; decide) ?_
              refine x_end ?_
              refine t_norm ?_
              refine rg_text ?_
              refine x_val rfl rfl rfl (v_move rfl) ?_
              refine x_val rfl rfl rfl (v_assign rfl) ?_
              refine x_end ?_
              refine b_norm ?_
              exact l_norm (x := (R, S, nx, f + 1, l)) (μ := fun x : RowS × RowS × Nat × Nat × List (Int × Int) => s.size - x.2.2.1) (R', S', (valR s ((valR s (nx + 2)).2.1 + 1)).2.1, f, l ++ [(ya, yb)]) ⟨hve, by dsimp only; omega, by dsimp only; rw [List.length_append, List.length_singleton]; omega, by dsimp only; rw [List.length_append, List.length_singleton, List.map_append]; simpa using hR', by dsimp only; rw [List.length_append, List.length_singleton, List.map_append]; simpa using hS', hT, fun z hz => by rcases List.mem_append.1 hz with h | h; (· exact hin z h); rw [List.mem_singleton.1 h]; exact ⟨by unfold in64; dsimp only; omega, by unfold in64; dsimp only; omega⟩⟩ (by simp only; omega) (by repeat (first | exact Sub.nil | refine Sub.cons rfl ?_)) (fun w1 h => by rw [List.length_append, List.length_singleton]; exact h.less (List.sublist_cons_self _ _) (fun _ h => h))
          · simp only [hb91, decide_eq_true_eq, decide_eq_false_iff_not, Bool.and_eq_true, Bool.or_eq_true, Bool.and_eq_false_iff, Bool.or_eq_false_iff, Bool.not_eq_true', Bool.not_eq_false', ne_eq, Decidable.not_not] at hc91
            obtain ⟨f, rfl⟩ : ∃ g, f = g + 1 := ⟨f - 1, by omega⟩
            rw [tail_end (f := f) (nx := nx) (by omega)] at hT
            have hT : tailR s (s.size + 1) (stR s).2.1 = some l := by rw [hT]; show some (l ++ []) = _; rw [List.append_nil]
            obtain ⟨PP, hPP⟩ : ∃ q : Pat, q = patO (valR s 6).1 (readC (dyR s)).1 (stR s).1 l := ⟨_, rfl⟩
            have e1 : PP.lv = 0 :: l.map (·.2) := by rw [hPP]; rfl
            have e2 : PP.st = (stR s).1 :: l.map (·.1) := by rw [hPP]; rfl
            have e3 : PP.first = (readC (dyR s)).1 := by rw [hPP]; rfl
            have e4 : PP.days = (valR s 6).1 := by rw [hPP]; rfl
            have hvr := val_rng s 6
            have hvs : 0 ≤ (stR s).1 ∧ (stR s).1 < 10000000 := val_rng s _
            have hinS : ∀ d ∈ PP.st, in64 d := fun d hd => by rw [e2] at hd; rcases List.mem_cons.1 hd with rfl | hd; (· unfold in64; omega); obtain ⟨z, hz, rfl⟩ := List.mem_map.1 hd; exact (hin z hz).1
            have hinL : ∀ d ∈ PP.lv, in64 d := fun d hd => by rw [e1] at hd; rcases List.mem_cons.1 hd with rfl | hd; (· unfold in64; decide); obtain ⟨z, hz, rfl⟩ := List.mem_map.1 hd; exact (hin z hz).2
            have hl1 : l.length + 1 = PP.lv.length := by rw [e1]; simp
            have hl2 : l.length + 1 = PP.st.length := by rw [e2]; simp
            rw [← e1] at hS
            rw [← e2] at hR
            refine w_exit ?_
            refine t_exit ?_
            refine t_exit ?_
            refine b_hit ?_
            refine t_norm ?_
            refine w_seq ?_
            refine rg_text ?_
            refine x_val rfl rfl rfl (v_load_blk (e := 24) (fz := (0, 0)) (cs := ([Value.int .i64 (readC (dyR s)).1, Value.int .i64 (valR s 6).1, rowV S (l.length + 1), rowV R (l.length + 1)]).toArray) Tryz.underlying24 rfl rfl (.head _) (by exact sz24)) ?_
            refine x_callb rfl rfl rfl Tryz.func9 (by kernel_rfl) rfl (fun w1 hw1 => by
              have h := c_rRight PP w1 (⟨(by show in64 PP.first; rw [e3]; exact readC_in _), (by show in64 PP.days; rw [e4]; unfold in64; omega), rowI_rd (D := fun _ => True) (e := 3) hS hl1 hinL hw1 (fun q hq => by simp [hq]) (fun _ _ => trivial), rowI_rd (D := fun _ => True) (e := 3) hR hl2 hinS hw1 (fun q hq => by simp [hq]) (fun _ _ => trivial)⟩ : patRd (fun _ => True) w1 PP (rowV S (l.length + 1)) (rowV R (l.length + 1)))
              rw [e3, e4] at h; exact h) ?_
            intro b143 hb143
            refine x_val rfl rfl rfl (v_assign rfl) ?_
            refine x_end ?_
            refine t_norm ?_
            refine w_seq ?_
            refine w_seq ?_
            refine rg_text ?_
            refine x_val rfl rfl rfl (v_move rfl) ?_
            refine x_bool rfl rfl rfl (v_not rfl) ?_
            intro b145 hb145
            refine x_end ?_
            refine t_norm ?_
            refine w_cond rfl (fun hc145 => ?_) (fun hc145 => ?_)
            · have hnq : ¬rightQ PP := fun h => by rw [hb145, hb143, decide_eq_true h] at hc145; simp at hc145
              refine w_seq ?_
              refine rg_text ?_
              refine x_val rfl rfl rfl (v_load_blk (e := 24) (fz := (0, 0)) (cs := #[Value.int .i64 0, Value.int .i64 0, Value.slice none 0 0, Value.slice none 0 0]) Tryz.underlying24 rfl rfl (by simp) (by exact sz24)) ?_
              refine x_store0 (cs := #[Value.int .i64 0, Value.int .i64 0, Value.slice none 0 0, Value.slice none 0 0]) (e := 24) (l2 := []) ((p13, Obj.cells [Value.int .i64 (readC (dyR s)).1, Value.int .i64 (valR s 6).1, rowV S (l.length + 1), rowV R (l.length + 1)].toArray 24 (0, 0)) :: (rowO 3 R ++ (rowO 3 S ++ [(p4, Obj.cells #[Value.int .i64 0, Value.int .i64 0, Value.slice none 0 0, Value.slice none 0 0] 24)]))) rfl rfl rfl (by simp [List.append_assoc]) sz24 rfl rfl ?_
              refine x_val rfl rfl rfl (v_assign rfl) ?_
              refine x_end ?_
              refine t_norm ?_
              refine w_ret ?_
              refine t_ret ?_
              have hno : readPR readC s = (zeroPat, 11) := by unfold readPR; rw [if_pos hok, hT]; dsimp only; rw [if_neg (by rw [← hPP]; exact hnq)]
              refine retct rfl rfl rfl (List.mem_append_right _ (.head _)) Tryz.underlying24 rfl sz24 (fun w' hm => ⟨.slice none 0 0, .slice none 0 0, by rw [hno]; rfl, hm.base (by simp), ?_⟩)
              rw [hno]
              exact ⟨by unfold in64; decide, by unfold in64; decide, ⟨none, 0, rfl, Nat.le_refl _, Nat.zero_le _, fun h => absurd h (by decide)⟩, ⟨none, 0, rfl, Nat.le_refl _, Nat.zero_le _, fun h => absurd h (by decide)⟩⟩
            · have hq : rightQ PP := by rw [hb145, hb143] at hc145; simpa using hc145
              refine w_skip ?_
              refine t_norm ?_
              refine w_seq ?_
              refine rg_text ?_
              refine x_val rfl rfl rfl (v_load_blk (e := 24) (fz := (0, 0)) (cs := ([Value.int .i64 (readC (dyR s)).1, Value.int .i64 (valR s 6).1, rowV S (l.length + 1), rowV R (l.length + 1)]).toArray) Tryz.underlying24 rfl rfl (.head _) (by exact sz24)) ?_
              refine x_store0 (cs := #[Value.int .i64 0, Value.int .i64 0, Value.slice none 0 0, Value.slice none 0 0]) (e := 24) (l2 := []) ((p13, Obj.cells [Value.int .i64 (readC (dyR s)).1, Value.int .i64 (valR s 6).1, rowV S (l.length + 1), rowV R (l.length + 1)].toArray 24 (0, 0)) :: (rowO 3 R ++ (rowO 3 S ++ [(p4, Obj.cells #[Value.int .i64 0, Value.int .i64 0, Value.slice none 0 0, Value.slice none 0 0] 24)]))) rfl rfl rfl (by simp [List.append_assoc]) sz24 rfl rfl ?_
              refine x_val rfl rfl rfl (v_assign rfl) ?_
              refine x_end ?_
              refine t_norm ?_
              refine w_ret ?_
              have hyes : readPR readC s = (PP, 0) := by unfold readPR; rw [if_pos hok, hT]; dsimp only; rw [← hPP, if_pos hq]
              refine retct rfl rfl rfl (List.mem_append_right _ (.head _)) Tryz.underlying24 rfl sz24 (fun w' hm => ⟨rowV S (l.length + 1), rowV R (l.length + 1), by rw [hyes]; dsimp only; rw [e3, e4]; rfl, hm.base (by simp), ?_⟩)
              rw [hyes]
              exact ⟨(by show in64 PP.first; rw [e3]; exact readC_in _), (by show in64 PP.days; rw [e4]; unfold in64; omega), rowI_rd (e := 3) hS hl1 hinL hm (fun q hq => by simp [hq]) (fun q hq => hm.newer (by simp) (by simp [hq])), rowI_rd (e := 3) hR hl2 hinS hm (fun q hq => by simp [hq]) (fun q hq => hm.newer (by simp) (by simp [hq]))⟩

end Go.Proofs.YtafannhhkfpbeaaGreatDoor

namespace Go.Proofs.YtafannhhkfpbeaaGreatDoor
open Go.RowKit Go.PK
set_option linter.unusedVariables false
set_option linter.unusedSimpArgs false

theorem prog_read {p : Pat} (h : rightQ p) : readQ (writeQ p) = (p, 0) := by
  obtain ⟨h1, h2, h3, h4, h5⟩ := prog_hit h
  have e : rdP (writeQ p) = p := by
    unfold rdP
    rw [h2, h3, h4, h5, readC_back h.2.2.2]
  have hne : writeQ p ≠ ⟨#[]⟩ := fun h0 => by
    obtain ⟨s0, l, hp, _⟩ := right_pat h
    have hw := congrArg List.length (write_bl (hp ▸ h))
    rw [← hp, h0] at hw
    unfold headT at hw
    simp only [List.length_append, bl_len, show sEvery.size = 6 from rfl] at hw
    have h9 : (⟨#[]⟩ : ByteArray).size = 0 := rfl
    omega
  unfold readQ
  rw [if_pos ⟨h1, hne, by rw [e]⟩, e]
theorem read_same (s : ByteArray) : readQ s = readPR readC s := by
  rcases readPR_case readC readC_1 s with h | ⟨q, h, hq, hs⟩
  · by_cases hc : rdOK s
    · obtain ⟨h1, h2, h3⟩ := hc
      have hr : rightQ (rdP s) := Classical.byContradiction fun hn => by
        unfold writeQ at h3
        rw [if_neg hn] at h3
        exact h2 h3.symm
      have := readPR_hit readC (fun n hn => readC_back hn) hr
      rw [h3, h] at this
      injection this with _ h9
      exact absurd h9 (by decide)
    · rw [h]; unfold readQ; rw [if_neg hc]
  · rw [h, ← hs]; exact prog_read hq
theorem wr_sz {p : Pat} (h : rightQ p) : (writeQ p).size ≤ 2000 := by
  have h1 := h.1.1
  have h2 := h.1.2.1
  have h3 := h.1.2.2.1
  have key : ∀ j, j < p.lv.length → in64 (p.lv.getD j 0) ∧ in64 (p.st.getD j 0) := fun j hj => by
    by_cases h0 : j = 0
    · subst h0
      have a := h.1.2.2.2
      unfold in64; omega
    · have := h.at (j := j) (by omega) hj
      unfold in64; omega
  have hz := wrTo_sz p (fun d hd => by obtain ⟨j, hj, rfl⟩ := List.getElem_of_mem hd; rw [← getD_lt hj]; exact (key j (by omega)).2) (fun d hd => by obtain ⟨j, hj, rfl⟩ := List.getElem_of_mem hd; rw [← getD_lt hj]; exact (key j hj).1) (by have := h.2.2.1; unfold in64; omega) h3 h1 (p.lv.length - 1) (by omega)
  unfold writeQ
  rw [if_pos h]
  omega
set_option maxHeartbeats 4000000 in
set_option maxRecDepth 100000 in
theorem lawTexts {v u1 u2 : Value} {l : List Int} {D : Nat → Prop} (wild : Pat) (text : ByteArray) (w : World) (hl : sliceRd tyI D w v l) (hwild : patRd D w wild u1 u2) (hts : text.size ≤ 1048576) (hL : LD w) :
    Calls Tryz.prog 4 #[v, .agg #[.int .i64 wild.first, .int .i64 wild.days, u1, u2], .string text] w fun e w' => e = .returned (.bool (true)) ∧ Later w w' := by
  obtain ⟨A0, c0, rfl, hlc0, hmx0, -⟩ := id hl
  obtain ⟨hwa, hwb, hwc, hwd⟩ := id hwild
  obtain ⟨AW1, cw1, rfl, -⟩ := id hwc
  obtain ⟨AW2, cw2, rfl, -⟩ := id hwd
  refine enter (vs := [.slice A0 l.length c0, .agg #[.int .i64 wild.first, .int .i64 wild.days, Value.slice AW1 wild.lv.length cw1, Value.slice AW2 wild.st.length cw2], .string text]) Tryz.func4 rfl Tryz.ntmps4 rfl ?_
  refine w_seq ?_
  refine rg_text ?_
  refine x_box rfl rfl rfl rfl ?_
  intro p4
  refine x_val rfl rfl rfl (v_assign rfl) ?_
  refine x_end ?_
  refine t_norm ?_
  refine w_seq ?_
  refine rg_text ?_
  refine x_callb rfl rfl rfl Tryz.func6 (by kernel_rfl) rfl (fun w1 hw1 => c_sanity w1 (hL.later (hw1.base (by simp)))) ?_
  intro b16 hb16
  obtain rfl : b16 = true := hb16
  refine x_val rfl rfl rfl (v_assign rfl) ?_
  refine x_end ?_
  refine t_norm ?_
  refine w_seq_cut (σ := Value × List Int × World) (fun x => sliceRd tyI (fun _ => True) x.2.2 x.1 x.2.1 ∧ 2 ≤ x.2.1.length ∧ ∀ i (hi : i < ([Value.int .i64 wild.first, Value.int .i64 wild.days, Value.slice AW1 wild.lv.length cw1, Value.slice AW2 wild.st.length cw2]).length), x.2.2.cell? ⟨p4, 0 + i, none⟩ = some ([Value.int .i64 wild.first, Value.int .i64 wild.days, Value.slice AW1 wild.lv.length cw1, Value.slice AW2 wild.st.length cw2])[i]) (fun x => [(0, x.1), (2, Value.string text), (4, Value.pointer (some ⟨p4, 0, none⟩)), (7, Value.bool true)]) (fun x => []) (fun x => [(x.2.2, (notOwn ([] : List (Nat × Obj)))), (w, fun _ => True)]) ?_ ?_
  · refine w_seq ?_
    refine rg_text ?_
    refine x_val rfl rfl rfl (v_move rfl) ?_
    refine x_val rfl rfl rfl (v_len_slice Tryz.underlying22 rfl) ?_
    refine x_bool rfl rfl rfl (v_lss rfl rfl) ?_
    intro b19 hb19
    refine x_end ?_
    refine t_norm ?_
    refine w_cond rfl (fun hc19 => ?_) (fun hc19 => ?_)
    · simp only [hb19, decide_eq_true_eq, decide_eq_false_iff_not, Bool.and_eq_true, Bool.or_eq_true, Bool.and_eq_false_iff, Bool.or_eq_false_iff, Bool.not_eq_true', Bool.not_eq_false', ne_eq, Decidable.not_not] at hc19
      refine rg_text ?_
      refine x_buildSliceL (cs := [Value.int .i64 3, Value.int .i64 4]) rfl rfl rfl Tryz.underlying22 sz3 zr3 rfl rfl rfl ?_
      intro p20
      refine x_val rfl rfl rfl (v_assign rfl) ?_
      refine x_end ?_
      refine s_fix [] (List.nil_sublist _) (fun w0 hm0 => ?_)
      exact c_norm (Value.slice (some ⟨p20, 0, none⟩) 2 2, [3, 4], w0) ⟨num_row (e := 3) hm0 [3, 4] (.head _) (by intro d hd; simp at hd; unfold in64; omega) (by simp [maxLen]), by simp, fun i hi => (hm0.cell_own (.tail _ (.head _)) (0 + i)).trans (by rw [Nat.zero_add, List.getElem?_toArray]; exact List.getElem?_eq_getElem hi)⟩ (by repeat (first | exact Sub.nil | refine Sub.cons rfl ?_)) (fun w1 h => h.less (List.Sublist.refl _) (fun s hs => by simp at hs ⊢; rcases hs with rfl | rfl <;> simp))
    · simp only [hb19, decide_eq_true_eq, decide_eq_false_iff_not, Bool.and_eq_true, Bool.or_eq_true, Bool.and_eq_false_iff, Bool.or_eq_false_iff, Bool.not_eq_true', Bool.not_eq_false', ne_eq, Decidable.not_not] at hc19
      refine w_skip ?_
      refine s_fix [] (List.nil_sublist _) (fun w0 hm0 => ?_)
      exact c_norm (Value.slice A0 l.length c0, l, w0) ⟨hl.keep (Kept.all (hm0.base (by simp))), by dsimp only; omega, fun i hi => (hm0.cell_own (.head _) (0 + i)).trans (by rw [Nat.zero_add, List.getElem?_toArray]; exact List.getElem?_eq_getElem hi)⟩ (by repeat (first | exact Sub.nil | refine Sub.cons rfl ?_)) (fun w1 h => h.less (List.Sublist.refl _) (fun s hs => by simp at hs ⊢; rcases hs with rfl | rfl <;> simp))
  · rintro ⟨v', l', w0⟩ ⟨hl', h2, hw4⟩
    refine w_state ([(0, v'), (2, Value.string text), (4, Value.pointer (some ⟨p4, 0, none⟩)), (7, Value.bool true)]) ([]) ([(w0, (notOwn ([] : List (Nat × Obj)))), (w, fun _ => True)]) ?_
    dsimp only at hl' h2 hw4
    obtain ⟨A, c, rfl, hlc, hmx, -⟩ := id hl'
    obtain ⟨ba, oa, hAa, _, hca, hia⟩ := int_at hl' (k := 0) (by omega)
    obtain ⟨bb, ob, hAb, _, hcb, hib⟩ := int_at hl' (k := 1) (by omega)
    obtain ⟨p, hP⟩ : ∃ p, madeP l'[0] l'[1] (l'.drop 2) = p := ⟨_, rfl⟩
    have hq : rightQ p := by rw [← hP]; exact made_right _ _ _
    have hdd := hq.2.2.2
    unfold okDay at hdd
    refine w_seq_cut (σ := Nat × Option Addr × Nat × Option Addr × Nat × World) (fun y => patRd (newD w [(y.1, Obj.cells ([Value.int .i64 p.first, Value.int .i64 p.days, Value.slice y.2.1 p.lv.length y.2.2.1, Value.slice y.2.2.2.1 p.st.length y.2.2.2.2.1]).toArray 24 (0, 0))]) y.2.2.2.2.2 p (Value.slice y.2.1 p.lv.length y.2.2.1) (Value.slice y.2.2.2.1 p.st.length y.2.2.2.2.1)) (fun y => [(2, Value.string text), (4, Value.pointer (some ⟨p4, 0, none⟩)), (7, Value.bool true), (8, Value.pointer (some ⟨y.1, 0, none⟩))]) (fun y => [(y.1, Obj.cells ([Value.int .i64 p.first, Value.int .i64 p.days, Value.slice y.2.1 p.lv.length y.2.2.1, Value.slice y.2.2.2.1 p.st.length y.2.2.2.2.1]).toArray 24 (0, 0))]) (fun y => [(y.2.2.2.2.2, notOwn [(y.1, Obj.cells ([Value.int .i64 p.first, Value.int .i64 p.days, Value.slice y.2.1 p.lv.length y.2.2.1, Value.slice y.2.2.2.1 p.st.length y.2.2.2.2.1]).toArray 24 (0, 0))]), (w0, (notOwn ([] : List (Nat × Obj)))), (w, fun _ => True)]) ?_ ?_
    · refine rg_tree 10 (.flt 0 (.flt 1 (.flt 2 (.flt 3 (.flt 4 (.flt 5 (.flt 6 (.flt 7 (.gr 8 (.gr 9 .done .nil) (.gr 9 (.gr 8 .done .nil) .nil)))))))))) (by kernel_rfl) (by kernel_rfl) ?_
      refine t_flt (Q := fun _ _ _ => False) ?_
      refine x_val rfl rfl rfl (v_move rfl) ?_
      refine x_end ?_
      refine t_flt (Q := fun _ _ _ => False) ?_
      refine x_val rfl rfl rfl (v_indexAddr (j := 0) Tryz.underlying22 sz3 (congrArg (fun A => some (Value.slice A l'.length c)) hAa) rfl (by first | omega | (dsimp only; omega)) rfl) ?_
      refine x_end ?_
      refine t_flt (Q := fun _ _ _ => False) ?_
      refine x_val rfl rfl rfl (v_load Tryz.underlying3 rfl rfl (at_ro (.head _) (fun _ h => by cases h) hca)) ?_
      refine x_end ?_
      refine t_flt (Q := fun _ _ _ => False) ?_
      refine x_val rfl rfl rfl (v_move rfl) ?_
      refine x_end ?_
      refine t_flt (Q := fun _ _ _ => False) ?_
      refine x_val rfl rfl rfl (v_indexAddr (j := 1) Tryz.underlying22 sz3 (congrArg (fun A => some (Value.slice A l'.length c)) hAb) rfl (by first | omega | (dsimp only; omega)) rfl) ?_
      refine x_end ?_
      refine t_flt (Q := fun _ _ _ => False) ?_
      refine x_val rfl rfl rfl (v_load Tryz.underlying3 rfl rfl (at_ro (.head _) (fun _ h => by cases h) hcb)) ?_
      refine x_end ?_
      refine t_flt (Q := fun _ _ _ => False) ?_
      refine x_val rfl rfl rfl (v_move rfl) ?_
      refine x_end ?_
      refine t_flt (Q := fun _ _ _ => False) ?_
      refine x_val rfl rfl rfl (v_scut_from (i := 2) Tryz.underlying22 sz3 rfl rfl h2 hlc) ?_
      refine x_end ?_
      refine t_gr (Q := fun _ _ _ => False) ?_ ?_
      · refine x_call (R := fun v wa wb => ∃ v1 v2, v = .agg #[.int .i64 p.first, .int .i64 p.days, v1, v2] ∧ patRd (fun b => wa.heap.size ≤ b) wb p v1 v2) rfl rfl rfl Tryz.func7 (by kernel_rfl) rfl (fun w1 hw1 => by
          have h := c_Made l'[0] l'[1] w1 hia hib (keep_all (sliceRd.dropN 2 h2 hl') hw1 (.head _))
          rw [hP] at h
          exact h.mono fun e w2 ⟨v1, v2, h1, h2, h3⟩ => ⟨_, h1, h2, v1, v2, rfl, h3⟩) ?_
        intro v29 wa29 wb29 hm29 hl29 hR29
        obtain ⟨v1, v2, rfl, hp1, hp2, hpa, hpb⟩ := hR29
        obtain ⟨A1, c1, rfl, -⟩ := id hpa
        obtain ⟨A2, c2, rfl, -⟩ := id hpb
        refine x_end ?_
        refine t_gr (Q := fun _ _ _ => False) ?_ t_nil
        refine x_alloc rfl rfl rfl zr24 ?_
        intro p8
        refine x_end ?_
        refine t_done ?_
        refine x_store0 [] rfl rfl rfl rfl sz24 rfl rfl ?_
        refine x_end ?_
        refine s_fix [(p8, Obj.cells ([Value.int .i64 p.first, Value.int .i64 p.days, Value.slice A1 p.lv.length c1, Value.slice A2 p.st.length c2]).toArray 24 (0, 0))] (List.Sublist.refl _) (fun w3 hm3 => ?_)
        exact c_norm (p8, A1, c1, A2, c2, w3) (patRd.keep (⟨hp1, hp2, hpa, hpb⟩ : patRd (fun b => wa29.heap.size ≤ b) wb29 p (Value.slice A1 p.lv.length c1) (Value.slice A2 p.st.length c2)) (Kept.made hm3 (by repeat (first | exact List.Mem.head _ | apply List.Mem.tail)) hm29 (hm29.base (by simp)).size)) (by repeat (first | exact Sub.nil | refine Sub.cons rfl ?_)) (fun w1 h => h.less (List.Sublist.refl _) (fun s hs => by simp at hs ⊢; rcases hs with rfl | rfl | rfl <;> simp))
      refine t_gr (Q := fun _ _ _ => False) ?_ t_nil
      refine x_alloc rfl rfl rfl zr24 ?_
      intro p8
      refine x_end ?_
      refine t_gr (Q := fun _ _ _ => False) ?_ t_nil
      refine x_call (R := fun v wa wb => ∃ v1 v2, v = .agg #[.int .i64 p.first, .int .i64 p.days, v1, v2] ∧ patRd (fun b => wa.heap.size ≤ b) wb p v1 v2) rfl rfl rfl Tryz.func7 (by kernel_rfl) rfl (fun w1 hw1 => by
        have h := c_Made l'[0] l'[1] w1 hia hib (keep_all (sliceRd.dropN 2 h2 hl') hw1 (.head _))
        rw [hP] at h
        exact h.mono fun e w2 ⟨v1, v2, h1, h2, h3⟩ => ⟨_, h1, h2, v1, v2, rfl, h3⟩) ?_
      intro v29 wa29 wb29 hm29 hl29 hR29
      obtain ⟨v1, v2, rfl, hp1, hp2, hpa, hpb⟩ := hR29
      obtain ⟨A1, c1, rfl, -⟩ := id hpa
      obtain ⟨A2, c2, rfl, -⟩ := id hpb
      refine x_end ?_
      refine t_done ?_
      refine x_store0 [] rfl rfl rfl rfl sz24 rfl rfl ?_
      refine x_end ?_
      refine s_fix [(p8, Obj.cells ([Value.int .i64 p.first, Value.int .i64 p.days, Value.slice A1 p.lv.length c1, Value.slice A2 p.st.length c2]).toArray 24 (0, 0))] (List.Sublist.refl _) (fun w3 hm3 => ?_)
      exact c_norm (p8, A1, c1, A2, c2, w3) (patRd.keep (⟨hp1, hp2, hpa, hpb⟩ : patRd (fun b => wa29.heap.size ≤ b) wb29 p (Value.slice A1 p.lv.length c1) (Value.slice A2 p.st.length c2)) (Kept.made hm3 (by repeat (first | exact List.Mem.head _ | apply List.Mem.tail)) hm29 (hm29.base (by simp)).size)) (by repeat (first | exact Sub.nil | refine Sub.cons rfl ?_)) (fun w1 h => h.less (List.Sublist.refl _) (fun s hs => by simp at hs ⊢; rcases hs with rfl | rfl | rfl <;> simp))
    · rintro ⟨p8, A1, c1, A2, c2, wq⟩ hpr
      refine w_state ([(2, Value.string text), (4, Value.pointer (some ⟨p4, 0, none⟩)), (7, Value.bool true), (8, Value.pointer (some ⟨p8, 0, none⟩))]) ([(p8, Obj.cells ([Value.int .i64 p.first, Value.int .i64 p.days, Value.slice A1 p.lv.length c1, Value.slice A2 p.st.length c2]).toArray 24 (0, 0))]) ([(wq, notOwn [(p8, Obj.cells ([Value.int .i64 p.first, Value.int .i64 p.days, Value.slice A1 p.lv.length c1, Value.slice A2 p.st.length c2]).toArray 24 (0, 0))]), (w0, (notOwn ([] : List (Nat × Obj)))), (w, fun _ => True)]) ?_
      dsimp only at hpr
      obtain ⟨hp1, hp2, hpa, hpb⟩ := id hpr
      refine w_seq ?_
      refine rg_text ?_
      refine x_val rfl rfl rfl (v_load_blk (e := 24) (fz := (0, 0)) (cs := ([Value.int .i64 p.first, Value.int .i64 p.days, Value.slice A1 p.lv.length c1, Value.slice A2 p.st.length c2]).toArray) Tryz.underlying24 rfl rfl (.head _) (by exact sz24)) ?_
      refine x_callv rfl rfl rfl Tryz.func15 (by kernel_rfl) rfl (fun w1 hw1 => c_Write p w1 (hpr.keep (Kept.new hw1 (by repeat (first | exact List.Mem.head _ | apply List.Mem.tail)))) (hL.later (hw1.base (by simp)))) ?_
      refine x_val rfl rfl rfl (v_assign rfl) ?_
      refine x_end ?_
      refine t_norm ?_
      refine w_seq ?_
      refine rg_text ?_
      refine x_val rfl rfl rfl (v_move rfl) ?_
      refine x_call (R := fun v wa wb => ∃ v1 v2, v = .tuple #[.agg #[.int .i64 p.first, .int .i64 p.days, v1, v2], .int .i64 0] ∧ patRd (fun b => wa.heap.size ≤ b) wb p v1 v2) rfl rfl rfl Tryz.func16 (by kernel_rfl) rfl (fun w1 hw1 => by
        have h := c_Read (writeQ p) w1 (by have := wr_sz hq; omega) (hL.later (hw1.base (by simp)))
        rw [prog_read hq] at h
        exact h.mono fun e w2 ⟨v1, v2, h1, h2, h3⟩ => ⟨_, h1, h2, v1, v2, rfl, h3⟩) ?_
      intro v34 wa34 wb34 hm34 hl34 hR34
      obtain ⟨x1, x2, rfl, hx34⟩ := hR34
      obtain ⟨Ya1, Ya1c, rfl, -⟩ := id hx34.2.2.1
      obtain ⟨Ya2, Ya2c, rfl, -⟩ := id hx34.2.2.2
      refine x_val rfl rfl rfl (v_move rfl) ?_
      refine x_val rfl rfl rfl (v_extract rfl rfl) ?_
      refine x_val rfl rfl rfl (v_extract rfl rfl) ?_
      refine x_alloc rfl rfl rfl zr24 ?_
      intro p10
      refine x_store0 [] rfl rfl rfl rfl sz24 rfl rfl ?_
      refine x_val rfl rfl rfl (v_assign rfl) ?_
      refine x_end ?_
      refine t_norm ?_
      refine w_seq ?_
      refine rg_text ?_
      refine x_val rfl rfl rfl (v_move rfl) ?_
      refine x_call (R := fun v wa wb => ∃ v1 v2, v = .tuple #[.agg #[.int .i64 (readQ text).1.first, .int .i64 (readQ text).1.days, v1, v2], .int .i64 (readQ text).2] ∧ patRd (fun b => wa.heap.size ≤ b) wb (readQ text).1 v1 v2) rfl rfl rfl Tryz.func16 (by kernel_rfl) rfl (fun w1 hw1 => by
        have h := c_Read text w1 (by omega) (hL.later (hw1.base (by simp)))
        exact h.mono fun e w2 ⟨v1, v2, h1, h2, h3⟩ => ⟨_, h1, h2, v1, v2, rfl, h3⟩) ?_
      intro v39 wa39 wb39 hm39 hl39 hR39
      obtain ⟨x3, x4, rfl, hx39⟩ := hR39
      obtain ⟨Yb1, Yb1c, rfl, -⟩ := id hx39.2.2.1
      obtain ⟨Yb2, Yb2c, rfl, -⟩ := id hx39.2.2.2
      refine x_val rfl rfl rfl (v_move rfl) ?_
      refine x_val rfl rfl rfl (v_extract rfl rfl) ?_
      refine x_val rfl rfl rfl (v_extract rfl rfl) ?_
      refine x_alloc rfl rfl rfl zr24 ?_
      intro p12
      refine x_store0 [] rfl rfl rfl rfl sz24 rfl rfl ?_
      refine x_val rfl rfl rfl (v_assign rfl) ?_
      refine x_end ?_
      refine t_norm ?_
      refine w_seq ?_
      refine rg_text ?_
      refine x_val rfl rfl rfl (v_move rfl) ?_
      refine x_call (R := fun v wa wb => ∃ v1 v2, v = .tuple #[.agg #[.int .i64 (readQ text).1.first, .int .i64 (readQ text).1.days, v1, v2], .int .i64 (readQ text).2] ∧ patRd (fun b => wa.heap.size ≤ b) wb (readQ text).1 v1 v2) rfl rfl rfl Tryz.func17 (by kernel_rfl) rfl (fun w1 hw1 => by
        have h := c_rRead text w1 (by omega)
        rw [← read_same] at h
        exact h.mono fun e w2 ⟨v1, v2, h1, h2, h3⟩ => ⟨_, h1, h2, v1, v2, rfl, h3⟩) ?_
      intro v44 wa44 wb44 hm44 hl44 hR44
      obtain ⟨x5, x6, rfl, hx44⟩ := hR44
      obtain ⟨Yc1, Yc1c, rfl, -⟩ := id hx44.2.2.1
      obtain ⟨Yc2, Yc2c, rfl, -⟩ := id hx44.2.2.2
      refine x_val rfl rfl rfl (v_move rfl) ?_
      refine x_val rfl rfl rfl (v_extract rfl rfl) ?_
      refine x_val rfl rfl rfl (v_extract rfl rfl) ?_
      refine x_alloc rfl rfl rfl zr24 ?_
      intro p14
      refine x_store0 [] rfl rfl rfl rfl sz24 rfl rfl ?_
      refine x_val rfl rfl rfl (v_assign rfl) ?_
      refine x_end ?_
      refine t_norm ?_
      refine w_seq ?_
      refine rg_draw 34 [(true, 0), (true, 1), (true, 2), (true, 3), (true, 4), (true, 5), (true, 6), (true, 7), (true, 8), (true, 9), (true, 10), (true, 11), (true, 12), (true, 13), (true, 14), (true, 15), (true, 16), (true, 17), (true, 18), (true, 19), (true, 20), (true, 21), (true, 22), (true, 23), (true, 24), (true, 25), (true, 26), (true, 27), (true, 28), (true, 29), (true, 30), (true, 31), (true, 32), (true, 33)] (by kernel_rfl) (by kernel_rfl) ?_
      refine x_val rfl rfl rfl (v_move rfl) ?_
      refine x_val rfl rfl rfl (v_move rfl) ?_
      refine x_valg rfl rfl rfl rfl rfl (v_move rfl) ?_
      refine x_valg rfl rfl rfl rfl rfl (v_load_blk (e := 24) (fz := (0, 0)) (cs := ([Value.int .i64 p.first, Value.int .i64 p.days, Value.slice A1 p.lv.length c1, Value.slice A2 p.st.length c2]).toArray) Tryz.underlying24 rfl rfl (.tail _ (.tail _ (.tail _ (.head _)))) (by exact sz24)) ?_
      refine x_callvg rfl rfl rfl rfl rfl Tryz.func18 (by kernel_rfl) rfl (fun w1 hw1 => c_rWrite p w1 (hpr.keep (Kept.new hw1 (by repeat (first | exact List.Mem.head _ | apply List.Mem.tail))))) ?_
      refine x_boolg rfl rfl rfl rfl rfl (v_seql rfl rfl) ?_
      intro b52 hb52
      obtain rfl : b52 = true := hb52.trans (decide_eq_true rfl)
      refine x_bool rfl rfl rfl (v_and rfl rfl) ?_
      intro b53 hb53
      obtain rfl : b53 = true := hb53
      refine x_val rfl rfl rfl (v_move rfl) ?_
      refine x_valg rfl rfl rfl rfl rfl (v_move rfl) ?_
      refine x_boolg rfl rfl rfl rfl rfl (v_eql rfl rfl) ?_
      intro b56 hb56
      obtain rfl : b56 = true := hb56.trans (decide_eq_true rfl)
      refine x_bool rfl rfl rfl (v_and rfl rfl) ?_
      intro b57 hb57
      obtain rfl : b57 = true := hb57
      refine x_val rfl rfl rfl (v_move rfl) ?_
      refine x_valg rfl rfl rfl rfl rfl (v_load_blk (e := 24) (fz := (0, 0)) (cs := ([Value.int .i64 p.first, Value.int .i64 p.days, Value.slice A1 p.lv.length c1, Value.slice A2 p.st.length c2]).toArray) Tryz.underlying24 rfl rfl (.tail _ (.tail _ (.tail _ (.head _)))) (by exact sz24)) ?_
      refine x_valg rfl rfl rfl rfl rfl (v_load_blk (e := 24) (fz := (0, 0)) (cs := ([Value.int .i64 p.first, Value.int .i64 p.days, Value.slice Ya1 p.lv.length Ya1c, Value.slice Ya2 p.st.length Ya2c]).toArray) Tryz.underlying24 rfl rfl (.tail _ (.tail _ (.head _))) (by exact sz24)) ?_
      refine x_callbg rfl rfl rfl rfl rfl Tryz.func19 (by kernel_rfl) rfl (fun w1 hw1 => c_SamePat p p w1 (hpr.keep (Kept.new hw1 (by repeat (first | exact List.Mem.head _ | apply List.Mem.tail)))) (⟨hx34.1, hx34.2.1, keep_new hx34.2.2.1 hw1 (by repeat (first | exact List.Mem.head _ | apply List.Mem.tail)) hm34, keep_new hx34.2.2.2 hw1 (by repeat (first | exact List.Mem.head _ | apply List.Mem.tail)) hm34⟩ : patRd (fun _ => True) w1 _ _ _)) ?_
      intro b61 hb61
      obtain rfl : b61 = true := hb61.trans (decide_eq_true rfl)
      refine x_bool rfl rfl rfl (v_and rfl rfl) ?_
      intro b62 hb62
      obtain rfl : b62 = true := hb62
      refine x_val rfl rfl rfl (v_move rfl) ?_
      refine x_valg rfl rfl rfl rfl rfl (v_loadN (vs := [Value.int .i64 wild.first, Value.int .i64 wild.days, Value.slice AW1 wild.lv.length cw1, Value.slice AW2 wild.st.length cw2]) Tryz.underlying24 rfl sz24 rfl (fun j hj => at_ro (s := (w0, (notOwn ([] : List (Nat × Obj))))) (by repeat (first | exact List.Mem.head _ | apply List.Mem.tail)) (fun _ h => by cases h) (hw4 j hj))) ?_
      refine x_callvg rfl rfl rfl rfl rfl Tryz.func15 (by kernel_rfl) rfl (fun w1 hw1 => c_Write wild w1 (hwild.keep (Kept.all (hw1.base (by simp)))) (hL.later (hw1.base (by simp)))) ?_
      refine x_valg rfl rfl rfl rfl rfl (v_loadN (vs := [Value.int .i64 wild.first, Value.int .i64 wild.days, Value.slice AW1 wild.lv.length cw1, Value.slice AW2 wild.st.length cw2]) Tryz.underlying24 rfl sz24 rfl (fun j hj => at_ro (s := (w0, (notOwn ([] : List (Nat × Obj))))) (by repeat (first | exact List.Mem.head _ | apply List.Mem.tail)) (fun _ h => by cases h) (hw4 j hj))) ?_
      refine x_callvg rfl rfl rfl rfl rfl Tryz.func18 (by kernel_rfl) rfl (fun w1 hw1 => c_rWrite wild w1 (hwild.keep (Kept.all (hw1.base (by simp))))) ?_
      refine x_boolg rfl rfl rfl rfl rfl (v_seql rfl rfl) ?_
      intro b68 hb68
      obtain rfl : b68 = true := hb68.trans (decide_eq_true rfl)
      refine x_bool rfl rfl rfl (v_and rfl rfl) ?_
      intro b69 hb69
      obtain rfl : b69 = true := hb69
      refine x_val rfl rfl rfl (v_move rfl) ?_
      refine x_valg rfl rfl rfl rfl rfl (v_move rfl) ?_
      refine x_valg rfl rfl rfl rfl rfl (v_move rfl) ?_
      refine x_boolg rfl rfl rfl rfl rfl (v_eql rfl rfl) ?_
      intro b73 hb73
      obtain rfl : b73 = true := hb73.trans (decide_eq_true rfl)
      refine x_bool rfl rfl rfl (v_and rfl rfl) ?_
      intro b74 hb74
      obtain rfl : b74 = true := hb74
      refine x_val rfl rfl rfl (v_move rfl) ?_
      refine x_valg rfl rfl rfl rfl rfl (v_load_blk (e := 24) (fz := (0, 0)) (cs := ([Value.int .i64 (readQ text).1.first, Value.int .i64 (readQ text).1.days, Value.slice Yb1 (readQ text).1.lv.length Yb1c, Value.slice Yb2 (readQ text).1.st.length Yb2c]).toArray) Tryz.underlying24 rfl rfl (.tail _ (.head _)) (by exact sz24)) ?_
      refine x_valg rfl rfl rfl rfl rfl (v_load_blk (e := 24) (fz := (0, 0)) (cs := ([Value.int .i64 (readQ text).1.first, Value.int .i64 (readQ text).1.days, Value.slice Yc1 (readQ text).1.lv.length Yc1c, Value.slice Yc2 (readQ text).1.st.length Yc2c]).toArray) Tryz.underlying24 rfl rfl (.head _) (by exact sz24)) ?_
      refine x_callbg rfl rfl rfl rfl rfl Tryz.func19 (by kernel_rfl) rfl (fun w1 hw1 => c_SamePat (readQ text).1 (readQ text).1 w1 (⟨hx39.1, hx39.2.1, keep_new hx39.2.2.1 hw1 (by repeat (first | exact List.Mem.head _ | apply List.Mem.tail)) hm39, keep_new hx39.2.2.2 hw1 (by repeat (first | exact List.Mem.head _ | apply List.Mem.tail)) hm39⟩ : patRd (fun _ => True) w1 _ _ _) (⟨hx44.1, hx44.2.1, keep_new hx44.2.2.1 hw1 (by repeat (first | exact List.Mem.head _ | apply List.Mem.tail)) hm44, keep_new hx44.2.2.2 hw1 (by repeat (first | exact List.Mem.head _ | apply List.Mem.tail)) hm44⟩ : patRd (fun _ => True) w1 _ _ _)) ?_
      intro b78 hb78
      obtain rfl : b78 = true := hb78.trans (decide_eq_true rfl)
      refine x_bool rfl rfl rfl (v_and rfl rfl) ?_
      intro b79 hb79
      obtain rfl : b79 = true := hb79
      refine x_val rfl rfl rfl (v_assign rfl) ?_
      refine x_end ?_
      refine t_norm ?_
      refine w_ret ?_
      exact ret1 rfl rfl (fun w' hm => ⟨rfl, hm.base (by simp)⟩)

end Go.Proofs.YtafannhhkfpbeaaGreatDoor

namespace Go.Proofs.YtafannhhkfpbeaaGreatDoor
open Go.RowKit Go.PK
set_option linter.unusedVariables false
set_option linter.unusedSimpArgs false

def laidL : List (String × DataW Unit) := [("math/bits.deBruijn32tab", Rows.laid_math_bits_deBruijn32tab), ("math/bits.deBruijn64tab", Rows.laid_math_bits_deBruijn64tab), ("internal/strconv.uint64pow10", Rows.laid_internal_strconv_uint64pow10), ("unicode/utf8.acceptRanges", Rows.laid_unicode_utf8_acceptRanges), ("strconv.ErrRange", Rows.laid_strconv_ErrRange), ("strconv.ErrSyntax", Rows.laid_strconv_ErrSyntax), ("unicode/utf8.first", Rows.laid_unicode_utf8_first)]
theorem noHandle {W : World} (h : laidMetH Tryz.prog laidL W) : laidMet Tryz.prog laidL W := by
  have h1 := (laidMetH_iff.1 h).1
  rwa [show (laidL.filter fun x => x.2.handleName?.isNone) = laidL from by kernel_rfl] at h1
theorem laid_tab {W : World} (h : laidMet Tryz.prog laidL W) : Lib.TabIs Tryz.prog W "internal/strconv.uint64pow10" .u64 Lib.pow10Tab := by
  have h1 := h.filter fun x => x.1 == "internal/strconv.uint64pow10"
  have e : (laidL.filter fun x => x.1 == "internal/strconv.uint64pow10") = [("internal/strconv.uint64pow10", Lib.tabData .u64 Lib.pow10Tab)] := by kernel_rfl
  rw [e] at h1
  exact Lib.tabIs_of_head (g := 3) (t := 134) (e := 119) (n := 20) (by kernel_rfl) (by kernel_rfl) (by kernel_rfl) (by kernel_rfl) (by kernel_rfl) (by kernel_rfl) h1
theorem star : "*" ++ "errors.errorString" = "*errors.errorString" := by decide
theorem row104 (u : TypeId) (h : Tryz.prog.typeName? 3 u = some "*errors.errorString") : u = 143 :=
  typeName_ptr_named (nm := "errors.errorString") (by rw [star]; kernel_rfl) (by kernel_rfl) (by decide) u (by rw [star]; exact h)
theorem laid_syn {W : World} (h : laidMet Tryz.prog laidL W) : ∃ tp p, W.var? Tryz.prog "strconv.ErrSyntax" = some #[.iface tp p] := by
  have h1 := h.filter fun x => x.1 == "strconv.ErrSyntax"
  have e : (laidL.filter fun x => x.1 == "strconv.ErrSyntax") = [("strconv.ErrSyntax", .iface "*errors.errorString" (.ptr (.agg [.lit (.string [105, 110, 118, 97, 108, 105, 100, 32, 115, 121, 110, 116, 97, 120])])))] := by kernel_rfl
  rw [e] at h1
  obtain ⟨a0, s0, hv0, _⟩ := laid_sentinel (g := 1) (ti := 66) (tp := 143) (te := 145) (ts := 9) h1 (by kernel_rfl) (by kernel_rfl) Tryz.underlying66 row104 Tryz.underlying143 Tryz.underlying145 rfl rfl Tryz.underlying9 (by kernel_rfl) (by kernel_rfl)
  exact ⟨_, _, hv0⟩
theorem laid_rng {W : World} (h : laidMet Tryz.prog laidL W) : ∃ tp p, W.var? Tryz.prog "strconv.ErrRange" = some #[.iface tp p] := by
  have h1 := h.filter fun x => x.1 == "strconv.ErrRange"
  have e : (laidL.filter fun x => x.1 == "strconv.ErrRange") = [("strconv.ErrRange", .iface "*errors.errorString" (.ptr (.agg [.lit (.string [118, 97, 108, 117, 101, 32, 111, 117, 116, 32, 111, 102, 32, 114, 97, 110, 103, 101])])))] := by kernel_rfl
  rw [e] at h1
  obtain ⟨a0, s0, hv0, _⟩ := laid_sentinel (g := 2) (ti := 66) (tp := 143) (te := 145) (ts := 9) h1 (by kernel_rfl) (by kernel_rfl) Tryz.underlying66 row104 Tryz.underlying143 Tryz.underlying145 rfl rfl Tryz.underlying9 (by kernel_rfl) (by kernel_rfl)
  exact ⟨_, _, hv0⟩

theorem ld_of {W : World} (h : laidMetH Tryz.prog laidL W) (hS : W.ShapedOpen Tryz.prog) : LD W := ⟨laid_tab (noHandle h), Tryz.laysM146.s1_3 W hS, laid_syn (noHandle h), laid_rng (noHandle h)⟩
theorem laid_met (os : Os) (args : Array Value) : laidMet Tryz.prog laidL ((World.laidAll Tryz.prog os laidL).forCall (fun _ _ => 0) ⟨#[], args, []⟩).memory :=
  laidMet_laidAll args (by kernel_rfl) (by kernel_rfl)
theorem bulk_one {H : Type} (d : DataW H) : 1 ≤ Rows.uptoBulk d := by
  cases d with
  | lit l => cases l <;> simp [Rows.uptoBulk]
  | nil => simp [Rows.uptoBulk]
  | ptr d => simp [Rows.uptoBulk]
  | slice elems spare => simp [Rows.uptoBulk]
  | agg parts => simp [Rows.uptoBulk]
  | iface t d => simp [Rows.uptoBulk]
  | map entries => simp [Rows.uptoBulk]
  | held h => simp [Rows.uptoBulk]
def meas (H : Type) : Meas H := ⟨Rows.uptoBulk, Rows.uptoBulkAll, fun _ => by simp [Rows.uptoBulk], fun _ _ => by simp [Rows.uptoBulk], fun _ => by simp [Rows.uptoBulk], fun _ _ => by simp [Rows.uptoBulkAll], bulk_one⟩

end Go.Proofs.YtafannhhkfpbeaaGreatDoor

namespace Go.Proofs.YtafannhhkfpbeaaGreatDoor
open Go.RowKit Go.PK
set_option linter.unusedVariables false
set_option linter.unusedSimpArgs false

abbrev tyPatU : Ty (Int × Int × List Int × List Int × Unit) := tyCons tyI (tyCons tyI (tyCons (tySlice tyI) (tyCons (tySlice tyI) tyNil)))
theorem rdr_pat : Rdr Tryz.prog 24 tyPatU :=
  rdr_struct Tryz.underlying24 (by kernel_rfl) (by decide) (.cons rfl (rdr_i Tryz.underlying3 (by kernel_rfl)) (.cons rfl (rdr_i Tryz.underlying3 (by kernel_rfl)) (.cons rfl (rdr_slice Tryz.underlying22 (by kernel_rfl) (rdr_i Tryz.underlying3 (by kernel_rfl))) (.cons rfl (rdr_slice Tryz.underlying22 (by kernel_rfl) (rdr_i Tryz.underlying3 (by kernel_rfl))) (.nil _)))))
set_option maxRecDepth 100000 in
theorem top_pat {H : Type} {enc : TypeId × Value → H} {W : World} {base b0 : Nat} {sp : Nat → Bool} {held : Bool} {r : Reach} {v : Value} {d : DataW H} {ps : List MemPlace} (hval : Value.okWide Tryz.prog W r b0 24 v) (h : DataW.Trod enc Tryz.prog W base sp held 24 v d ps) :
    ∃ (p : Pat) (v1 v2 : Value), v = .agg #[.int .i64 p.first, .int .i64 p.days, v1, v2] ∧ patRd (fun _ => True) W p v1 v2 := by
  have key : ∃ cs y, v = .agg cs ∧ tyPatU.rd (fun _ => True) W cs.toList y := top_agg (T := tyPatU) Tryz.underlying24 (by rfl) rdr_pat hval h
  clear hval h
  obtain ⟨cs, ⟨y1, y2, y3, y4, _⟩, rfl, hy⟩ := key
  obtain ⟨_, _, e0, ⟨e1, k1⟩, _, _, rfl, ⟨e2, k2⟩, _, _, rfl, ⟨w1, e3, k3⟩, _, _, rfl, ⟨w2, e4, k4⟩, e5⟩ := hy
  dsimp only at e1 e2 e3 e4 k1 k2 k3 k4
  have e5 : _ = [] := e5
  refine ⟨⟨y1, y2, y3, y4⟩, w1, w2, ?_, k1, k2, k3, k4⟩
  rw [e1, e2, e3, e4, e5] at e0
  exact congrArg Value.agg (Array.ext' (by simpa using e0))

end Go.Proofs.YtafannhhkfpbeaaGreatDoor

namespace Go.Proofs.YtafannhhkfpbeaaGreatDoor
open Go.RowKit Go.PK
set_option linter.unusedVariables false
set_option linter.unusedSimpArgs false
set_option maxRecDepth 100000 in
theorem c_pattern {v : Value} {l : List Int} {D : Nat → Prop} (w : World) (hl : sliceRd tyI D w v l) :
    Calls Tryz.prog 20 #[v] w fun e w' => ∃ v1 v2, e = .returned (.agg #[.int .i64 (patL l).first, .int .i64 (patL l).days, v1, v2]) ∧ Later w w' ∧ patRd (fun b => w.heap.size ≤ b) w' (patL l) v1 v2 := by
  obtain ⟨A0, c0, rfl, hlc0, hmx0, -⟩ := id hl
  refine enter (vs := [.slice A0 l.length c0]) Tryz.func20 rfl Tryz.ntmps20 rfl ?_
  refine w_seq ?_
  refine rg_text ?_
  refine x_alloc rfl rfl rfl zr24 ?_
  intro p2
  refine x_end ?_
  refine t_norm ?_
  refine w_seq_cut (σ := Value × List Int × World) (fun x => sliceRd tyI (notOwn [(p2, Obj.cells #[Value.int .i64 0, Value.int .i64 0, Value.slice none 0 0, Value.slice none 0 0] 24 (0, 0))]) x.2.2 x.1 x.2.1 ∧ 2 ≤ x.2.1.length ∧ patL x.2.1 = patL l) (fun x => [(0, x.1), (2, Value.pointer (some ⟨p2, 0, none⟩))]) (fun x => [(p2, Obj.cells #[Value.int .i64 0, Value.int .i64 0, Value.slice none 0 0, Value.slice none 0 0] 24 (0, 0))]) (fun x => [(x.2.2, (notOwn [(p2, Obj.cells #[Value.int .i64 0, Value.int .i64 0, Value.slice none 0 0, Value.slice none 0 0] 24 (0, 0))])), (w, fun _ => True)]) ?_ ?_
  · refine w_seq ?_
    refine rg_text ?_
    refine x_val rfl rfl rfl (v_move rfl) ?_
    refine x_val rfl rfl rfl (v_len_slice Tryz.underlying22 rfl) ?_
    refine x_bool rfl rfl rfl (v_lss rfl rfl) ?_
    intro b5 hb5
    refine x_end ?_
    refine t_norm ?_
    refine w_cond rfl (fun hc5 => ?_) (fun hc5 => ?_)
    · simp only [hb5, decide_eq_true_eq, decide_eq_false_iff_not, Bool.and_eq_true, Bool.or_eq_true, Bool.and_eq_false_iff, Bool.or_eq_false_iff, Bool.not_eq_true', Bool.not_eq_false', ne_eq, Decidable.not_not] at hc5
      refine rg_text ?_
      refine x_buildSliceL (cs := [Value.int .i64 5, Value.int .i64 30]) rfl rfl rfl Tryz.underlying22 sz3 zr3 rfl rfl rfl ?_
      intro p6
      refine x_val rfl rfl rfl (v_assign rfl) ?_
      refine x_end ?_
      refine s_fix [(p2, Obj.cells #[Value.int .i64 0, Value.int .i64 0, Value.slice none 0 0, Value.slice none 0 0] 24 (0, 0))] (List.sublist_cons_self _ _) (fun w0 hm0 => ?_)
      exact c_norm (Value.slice (some ⟨p6, 0, none⟩) 2 2, [5, 30], w0) ⟨rowI_rd (D := (notOwn [(p2, Obj.cells #[Value.int .i64 0, Value.int .i64 0, Value.slice none 0 0, Value.slice none 0 0] 24 (0, 0))])) (e := 3) (r := some (p6, [5, 30].map (Value.int .i64), 2)) (rowOK_lit rfl (by simp [maxLen])) rfl (by intro d hd; simp at hd; unfold in64; omega) hm0 (fun q hq => by rw [show q = _ from List.mem_singleton.1 hq]; exact .head _) (fun q hq => hm0.notIn (l1 := [_]) (List.Sublist.refl _) hq), by simp, by unfold patL; rw [if_neg (show ¬([5, 30] : List Int).length < 2 by decide), if_pos (by omega)]; rfl⟩ (by repeat (first | exact Sub.nil | refine Sub.cons rfl ?_)) (fun w1 h => h.less (List.Sublist.refl _) (fun s hs => by simp at hs ⊢; rcases hs with rfl | rfl <;> simp))
    · simp only [hb5, decide_eq_true_eq, decide_eq_false_iff_not, Bool.and_eq_true, Bool.or_eq_true, Bool.and_eq_false_iff, Bool.or_eq_false_iff, Bool.not_eq_true', Bool.not_eq_false', ne_eq, Decidable.not_not] at hc5
      refine w_skip ?_
      refine s_fix [(p2, Obj.cells #[Value.int .i64 0, Value.int .i64 0, Value.slice none 0 0, Value.slice none 0 0] 24 (0, 0))] (List.Sublist.refl _) (fun w0 hm0 => ?_)
      exact c_norm (Value.slice A0 l.length c0, l, w0) ⟨hl.keep (fun k hk hlt => ⟨fun q hq he => by have h9 := hm0.newer (w0 := w) (by simp) hq; omega, (hm0.base (by simp)).block k hlt⟩), by dsimp only; omega, rfl⟩ (by repeat (first | exact Sub.nil | refine Sub.cons rfl ?_)) (fun w1 h => h.less (List.Sublist.refl _) (fun s hs => by simp at hs ⊢; rcases hs with rfl | rfl <;> simp))
  · rintro ⟨v', l', w0⟩ ⟨hl', h2, hpe⟩
    refine w_state ([(0, v'), (2, Value.pointer (some ⟨p2, 0, none⟩))]) ([(p2, Obj.cells #[Value.int .i64 0, Value.int .i64 0, Value.slice none 0 0, Value.slice none 0 0] 24 (0, 0))]) ([(w0, (notOwn [(p2, Obj.cells #[Value.int .i64 0, Value.int .i64 0, Value.slice none 0 0, Value.slice none 0 0] 24 (0, 0))])), (w, fun _ => True)]) ?_
    dsimp only at hl' h2 hpe
    obtain ⟨A, c, rfl, hlc, hmx, -⟩ := id hl'
    obtain ⟨ba, oa, hAa, hDa, hca, hia⟩ := int_at hl' (k := 0) (by omega)
    obtain ⟨bb, ob, hAb, hDb, hcb, hib⟩ := int_at hl' (k := 1) (by omega)
    obtain ⟨p, hP⟩ : ∃ p, madeP l'[0] l'[1] (l'.drop 2) = p := ⟨_, rfl⟩
    have hpp : p = patL l := by rw [← hpe, ← hP]; unfold patL; rw [if_neg (by omega), getD_lt (by omega), getD_lt (by omega)]
    refine w_seq ?_
    refine rg_draw 9 [(true, 0), (true, 1), (true, 2), (true, 3), (true, 4), (true, 5), (true, 6), (true, 7), (false, 8)] (by kernel_rfl) (by kernel_rfl) ?_
    refine x_val rfl rfl rfl (v_move rfl) ?_
    refine x_val rfl rfl rfl (v_indexAddr (j := 0) Tryz.underlying22 sz3 (congrArg (fun A => some (Value.slice A l'.length c)) hAa) rfl (by first | omega | (dsimp only; omega)) rfl) ?_
    refine x_val rfl rfl rfl (v_load Tryz.underlying3 rfl rfl (at_ro (.head _) hDa hca)) ?_
    refine x_val rfl rfl rfl (v_move rfl) ?_
    refine x_val rfl rfl rfl (v_indexAddr (j := 1) Tryz.underlying22 sz3 (congrArg (fun A => some (Value.slice A l'.length c)) hAb) rfl (by first | omega | (dsimp only; omega)) rfl) ?_
    refine x_val rfl rfl rfl (v_load Tryz.underlying3 rfl rfl (at_ro (.head _) hDb hcb)) ?_
    refine x_val rfl rfl rfl (v_move rfl) ?_
    refine x_val rfl rfl rfl (v_scut_from (i := 2) Tryz.underlying22 sz3 rfl rfl h2 hlc) ?_
    refine x_call (R := fun v wa wb => ∃ v1 v2, v = .agg #[.int .i64 p.first, .int .i64 p.days, v1, v2] ∧ patRd (fun b => wa.heap.size ≤ b) wb p v1 v2) rfl rfl rfl Tryz.func7 (by kernel_rfl) rfl (fun w1 hw1 => by
      have h := c_Made l'[0] l'[1] w1 hia hib ((sliceRd.dropN 2 h2 hl').keep (Kept.snap (s := (w0, (notOwn [(p2, Obj.cells #[Value.int .i64 0, Value.int .i64 0, Value.slice none 0 0, Value.slice none 0 0] 24 (0, 0))]))) hw1 (by simp) (fun k h _ => h)))
      rw [hP] at h
      exact h.mono fun e w2 ⟨v1, v2, h1, h2, h3⟩ => ⟨_, h1, h2, v1, v2, rfl, h3⟩) ?_
    intro v15 wa15 wb15 hm15 hl15 hR15
    obtain ⟨v1, v2, rfl, hp1, hp2, hpa, hpb⟩ := hR15
    obtain ⟨A1, c1, rfl, -⟩ := id hpa
    obtain ⟨A2, c2, rfl, -⟩ := id hpb
    refine x_store0 [] rfl rfl rfl rfl sz24 rfl rfl ?_
    refine x_end ?_
    refine t_norm ?_
    refine w_ret ?_
    refine retc rfl rfl (.head _) Tryz.underlying24 rfl sz24 (fun w' hm => ?_)
    subst hpp
    exact ⟨_, _, rfl, hm.base (by simp), patRd.keep (⟨hp1, hp2, hpa, hpb⟩ : patRd (fun b => wa15.heap.size ≤ b) wb15 (patL l) _ _) (fun k hk hlt => ⟨Nat.le_trans (hm15.base (by simp)).size hk, Kept.snap (D' := fun _ => True) hm (s := (wb15, (notOwn [(p2, Obj.cells #[Value.int .i64 0, Value.int .i64 0, Value.slice none 0 0, Value.slice none 0 0] 24 (0, 0))]))) (by simp) (fun _ _ _ => trivial) k (fun q hq he => by have := hm15.lt hq; omega) hlt |>.2⟩)⟩
set_option maxRecDepth 100000 in
theorem c_Text {D : Nat → Prop} {v1 v2 : Value} (p : Pat) (k : Int) (w : World) (hp : patRd D w p v1 v2) (hq : rightQ p) (h0 : 0 ≤ k) (hk : k ≤ 2000000) :
    Calls Tryz.prog 22 #[.agg #[.int .i64 p.first, .int .i64 p.days, v1, v2], .int .i64 k] w fun e w' => e = .returned (.string (txN (numsP p k))) ∧ Later w w' := by
  obtain ⟨hp1, hp2, h1, h2⟩ := id hp
  obtain ⟨A1, c1, rfl, hlc1, hmx1, hB1⟩ := id h1
  obtain ⟨A2, c2, rfl, hlc2, hmx2, hB2⟩ := id h2
  obtain ⟨bL, oL, hL0, hLk⟩ := rd_blk h1
  obtain ⟨bS, oS, hS0, hSk⟩ := rd_blk h2
  refine enter (vs := [.agg #[.int .i64 p.first, .int .i64 p.days, .slice A1 p.lv.length c1, .slice A2 p.st.length c2], .int .i64 k]) Tryz.func22 rfl Tryz.ntmps22 rfl ?_
  refine w_seq ?_
  refine rg_text ?_
  refine x_box rfl rfl rfl rfl ?_
  intro p2
  refine x_val rfl rfl rfl (v_assign rfl) ?_
  refine x_end ?_
  refine t_norm ?_
  refine w_seq ?_
  refine rg_text ?_
  refine x_val rfl rfl rfl (v_load_blk (e := 24) (fz := (0, 0)) (cs := #[Value.int .i64 p.first, Value.int .i64 p.days, Value.slice A1 p.lv.length c1, Value.slice A2 p.st.length c2]) Tryz.underlying24 rfl rfl (.head _) (by exact sz24)) ?_
  refine x_val rfl rfl rfl (v_move rfl) ?_
  refine x_call (R := fun v wa wb => sliceRd tyI (fun b => wa.heap.size ≤ b) wb v (numsP p k)) rfl rfl rfl Tryz.func32 (by kernel_rfl) rfl (fun w1 hw1 => c_Numbers p k w1 (hp.keep (Kept.later (hw1.base (by simp)))) hq h0 hk) ?_
  intro v10 wa10 wb10 hm10 hl10 hR10
  obtain ⟨A10, c10, rfl, -⟩ := id hR10
  obtain ⟨n1, n2, n3⟩ := nums_tx hq h0 hk
  have n4 := nums_in64 hq h0 hk
  refine x_val rfl rfl rfl (v_assign rfl) ?_
  refine x_end ?_
  refine t_norm ?_
  refine w_seq ?_
  refine rg_text ?_
  refine x_val (v := Value.string (txTo (numsP p k) 0)) rfl rfl rfl (v_assign rfl) ?_
  refine x_end ?_
  refine t_norm ?_
  refine w_seq ?_
  refine w_seq ?_
  refine rg_text ?_
  refine x_val rfl rfl rfl (v_assign rfl) ?_
  refine x_end ?_
  refine t_norm ?_
  refine w_block ?_
  refine w_loop (σ := Nat) (fun i => i ≤ (numsP p k).length) (fun i => [(5, Value.slice A10 (numsP p k).length c10), (6, Value.string (txTo (numsP p k) i)), (7, Value.int .i64 (i : Nat))]) (fun i => [(p2, Obj.cells #[Value.int .i64 p.first, Value.int .i64 p.days, Value.slice A1 p.lv.length c1, Value.slice A2 p.st.length c2] 24)]) (fun i => [(wb10, (notOwn [(p2, Obj.cells #[Value.int .i64 p.first, Value.int .i64 p.days, Value.slice A1 p.lv.length c1, Value.slice A2 p.st.length c2] 24)])), (w, fun _ => True)]) (fun i => (numsP p k).length - i) (0) (Nat.zero_le _) (l_start (by repeat (first | exact Sub.nil | refine Sub.cons rfl ?_)) (fun _ h => h)) ?_
  rintro i hi
  refine w_state ([(5, Value.slice A10 (numsP p k).length c10), (6, Value.string (txTo (numsP p k) i)), (7, Value.int .i64 (i : Nat))]) ([(p2, Obj.cells #[Value.int .i64 p.first, Value.int .i64 p.days, Value.slice A1 p.lv.length c1, Value.slice A2 p.st.length c2] 24)]) ([(wb10, (notOwn [(p2, Obj.cells #[Value.int .i64 p.first, Value.int .i64 p.days, Value.slice A1 p.lv.length c1, Value.slice A2 p.st.length c2] 24)])), (w, fun _ => True)]) ?_
  refine w_seq ?_
  refine w_seq ?_
  refine rg_text ?_
  refine x_val rfl rfl rfl (v_move rfl) ?_
  refine x_val rfl rfl rfl (v_move rfl) ?_
  refine x_val rfl rfl rfl (v_len_slice Tryz.underlying22 rfl) ?_
  refine x_bool rfl rfl rfl (v_lss rfl rfl) ?_
  intro b14 hb14
  refine x_end ?_
  refine t_norm ?_
  refine w_cond rfl (fun hc14 => ?_) (fun hc14 => ?_)
  · simp only [hb14, decide_eq_true_eq, decide_eq_false_iff_not, Bool.and_eq_true, Bool.or_eq_true, Bool.and_eq_false_iff, Bool.or_eq_false_iff, Bool.not_eq_true', Bool.not_eq_false', ne_eq, Decidable.not_not] at hc14
    have hil : i < (numsP p k).length := by omega
    obtain ⟨b0, o0, hA0, hD0, hc0, hin⟩ := int_at hR10 hil
    have hz := txTo_sz n4 i (by omega)
    have hd0 := n3 _ (List.getElem_mem hil)
    have hz2 := itoaS_size (n4 _ (List.getElem_mem hil))
    refine w_skip ?_
    refine t_norm ?_
    refine w_seq ?_
    refine w_block ?_
    refine w_seq ?_
    refine w_seq ?_
    refine rg_text ?_
    refine x_val rfl rfl rfl (v_move rfl) ?_
    refine x_bool rfl rfl rfl (v_gtr rfl rfl) ?_
    intro b18 hb18
    refine x_end ?_
    refine t_norm ?_
    refine w_cond rfl (fun hc18 => ?_) (fun hc18 => ?_)
    · simp only [hb18, decide_eq_true_eq, decide_eq_false_iff_not, Bool.and_eq_true, Bool.or_eq_true, Bool.and_eq_false_iff, Bool.or_eq_false_iff, Bool.not_eq_true', Bool.not_eq_false', ne_eq, Decidable.not_not] at hc18
      refine rg_text ?_
      refine x_val rfl rfl rfl (v_move rfl) ?_
      refine x_val rfl rfl rfl (v_sadd (u := slash) rfl rfl (by rw [show slash.size = 1 from rfl]; omega)) ?_
      refine x_val rfl rfl rfl (v_assign rfl) ?_
      refine x_end ?_
      refine t_norm ?_
      refine rg_text ?_
      refine x_val rfl rfl rfl (v_move rfl) ?_
      refine x_val rfl rfl rfl (v_move rfl) ?_
      refine x_val rfl rfl rfl (v_move rfl) ?_
      refine x_val rfl rfl rfl (v_indexAddr Tryz.underlying22 sz3 (congrArg (fun A => some (Value.slice A (numsP p k).length c10)) hA0) rfl (by first | omega | (dsimp only; omega)) rfl) ?_
      refine x_val rfl rfl rfl (v_load Tryz.underlying3 rfl rfl (at_ro (.head _) (fun q hq he => by have := hm10.lt hq; omega) (by rw [Nat.mul_one]; exact hc0))) ?_
      refine x_callv rfl rfl rfl Tryz.func46 (by kernel_rfl) rfl (fun w1 hw1 => c_Digits _ w1 hd0.1 hin) ?_
      refine x_val rfl rfl rfl (v_sadd rfl rfl (by first | omega | (rw [ByteArray.size_append, show slash.size = 1 from rfl]; omega))) ?_
      refine x_val (v := Value.string (txTo (numsP p k) (i + 1))) rfl rfl rfl (by rw [txTo, if_pos (by omega), getD_lt hil]; exact v_assign rfl) ?_
      refine x_end ?_
      refine b_norm ?_
      refine t_norm ?_
      refine rg_text ?_
      refine x_val rfl rfl rfl (v_move rfl) ?_
      refine x_val rfl rfl rfl (v_addi rfl rfl rfl (by first | omega | (dsimp only; omega))) ?_
      refine x_val rfl rfl rfl (v_assign rfl) ?_
      refine x_end ?_
      exact l_norm (i + 1) (show i + 1 ≤ (numsP p k).length by omega) (by omega) (by repeat (first | exact Sub.nil | refine Sub.cons rfl ?_)) (fun _ h => h)
    · simp only [hb18, decide_eq_true_eq, decide_eq_false_iff_not, Bool.and_eq_true, Bool.or_eq_true, Bool.and_eq_false_iff, Bool.or_eq_false_iff, Bool.not_eq_true', Bool.not_eq_false', ne_eq, Decidable.not_not] at hc18
      refine w_skip ?_
      refine t_norm ?_
      refine rg_text ?_
      refine x_val rfl rfl rfl (v_move rfl) ?_
      refine x_val rfl rfl rfl (v_move rfl) ?_
      refine x_val rfl rfl rfl (v_move rfl) ?_
      refine x_val rfl rfl rfl (v_indexAddr Tryz.underlying22 sz3 (congrArg (fun A => some (Value.slice A (numsP p k).length c10)) hA0) rfl (by first | omega | (dsimp only; omega)) rfl) ?_
      refine x_val rfl rfl rfl (v_load Tryz.underlying3 rfl rfl (at_ro (.head _) (fun q hq he => by have := hm10.lt hq; omega) (by rw [Nat.mul_one]; exact hc0))) ?_
      refine x_callv rfl rfl rfl Tryz.func46 (by kernel_rfl) rfl (fun w1 hw1 => c_Digits _ w1 hd0.1 hin) ?_
      refine x_val rfl rfl rfl (v_sadd rfl rfl (by first | omega | (rw [ByteArray.size_append, show slash.size = 1 from rfl]; omega))) ?_
      refine x_val (v := Value.string (txTo (numsP p k) (i + 1))) rfl rfl rfl (by rw [txTo, if_neg (by omega), getD_lt hil]; exact v_assign rfl) ?_
      refine x_end ?_
      refine b_norm ?_
      refine t_norm ?_
      refine rg_text ?_
      refine x_val rfl rfl rfl (v_move rfl) ?_
      refine x_val rfl rfl rfl (v_addi rfl rfl rfl (by first | omega | (dsimp only; omega))) ?_
      refine x_val rfl rfl rfl (v_assign rfl) ?_
      refine x_end ?_
      exact l_norm (i + 1) (show i + 1 ≤ (numsP p k).length by omega) (by omega) (by repeat (first | exact Sub.nil | refine Sub.cons rfl ?_)) (fun _ h => h)
  · simp only [hb14, decide_eq_true_eq, decide_eq_false_iff_not, Bool.and_eq_true, Bool.or_eq_true, Bool.and_eq_false_iff, Bool.or_eq_false_iff, Bool.not_eq_true', Bool.not_eq_false', ne_eq, Decidable.not_not] at hc14
    obtain rfl : i = (numsP p k).length := by omega
    refine w_exit ?_
    refine t_exit ?_
    refine t_exit ?_
    refine b_hit ?_
    refine t_norm ?_
    refine w_seq ?_
    refine rg_text ?_
    refine x_val rfl rfl rfl (v_move rfl) ?_
    refine x_val rfl rfl rfl (v_assign rfl) ?_
    refine x_end ?_
    refine t_norm ?_
    refine w_ret ?_
    refine ret1 rfl rfl (fun w' hm => ⟨?_, hm.base (by simp)⟩)
    rfl

end Go.Proofs.YtafannhhkfpbeaaGreatDoor

namespace Go.Proofs.YtafannhhkfpbeaaGreatDoor
open Go.RowKit Go.PK
set_option linter.unusedVariables false
set_option linter.unusedSimpArgs false

theorem ap5 : (Tryz.prog.info? 5).map (fun j => (j.zero, j.size, j.bytes)) = some (some (.int .u8 0), 1, 1) := by kernel_rfl
theorem dly_zero {p : Pat} {st : List Nat} {n : Nat} : (dlyP p (cFrom p st 0 n)).1 = 0 := by
  unfold dlyP
  cases h : (cFrom p st 0 n).reverse.find? (fun x => !x.sk) with
  | none => rfl
  | some x =>
    obtain ⟨i, _, _, hc⟩ := cFrom_mem (List.mem_reverse.1 (List.mem_of_find?_eq_some h))
    obtain ⟨a, _, c, _⟩ := cEnt_some hc
    show dlyE p x = 0
    unfold dlyE
    rw [a, c, Int.sub_self]; rfl
theorem clm_missP {p : Pat} (hq : rightQ p) (st : List Nat) : missP p (cFrom p st 0 60) (p.first + 59 * p.days) = clmL p st (fun x => decide (x = 0)) 0 60 := by
  unfold missP
  rw [if_pos hq, dly_zero]
  exact clm_miss hq.2.2.1.1 st _ 60 0 _ 0 (by decide) (by decide) (by unfold missMu; omega)
theorem clm_missN {p : Pat} (hq : rightQ p) (st : List Nat) : missP p (cFrom p st 0 60) (p.first - 1) = [] := by
  unfold missP
  rw [if_pos hq, dly_zero]
  exact miss_none hq.2.2.1.1 _ _ _ _ _ (Int.le_refl _) (fun e he => by
    obtain ⟨i, _, _, hc⟩ := cFrom_mem he
    rw [(cEnt_some hc).2.1]; omega)
set_option maxHeartbeats 8000000 in
set_option maxRecDepth 100000 in
theorem lawClaims {v va vb : Value} {l : List Int} {ar sk : List UInt8} {D : Nat → Prop} (w : World) (hl : sliceRd tyI D w v l) (har : sliceRd tyB D w va ar) (hsk : sliceRd tyB D w vb sk) (hlen : ar.length + sk.length ≤ 4000000) (hL : LD w) :
    Calls Tryz.prog 5 #[v, va, vb] w fun e w' => e = .returned (.bool (true)) ∧ Later w w' := by
  obtain ⟨A0, c0, rfl, hlc0, hmx0, -⟩ := id hl
  obtain ⟨AR, cR, rfl, -⟩ := id har
  obtain ⟨AS, cS, rfl, -⟩ := id hsk
  obtain ⟨p, hP⟩ : ∃ p, patL l = p := ⟨_, rfl⟩
  have hq : rightQ p := hP ▸ patL_right l
  have hpf : 10000 ≤ p.first ∧ p.first < 20000 := hP ▸ patL_rng l
  have hpd := hq.2.2.1
  refine enter (vs := [.slice A0 l.length c0, .slice AR ar.length cR, .slice AS sk.length cS]) Tryz.func5 rfl Tryz.ntmps5 rfl ?_
  refine w_seq ?_
  refine rg_text ?_
  refine x_val rfl rfl rfl (v_assign rfl) ?_
  refine x_end ?_
  refine t_norm ?_
  refine w_seq ?_
  refine rg_text ?_
  refine x_callb rfl rfl rfl Tryz.func6 (by kernel_rfl) rfl (fun w1 hw1 => c_sanity w1 (hL.later (hw1.base (by simp)))) ?_
  intro b21 hb21
  obtain rfl : b21 = true := hb21
  refine x_val rfl rfl rfl (v_assign rfl) ?_
  refine x_end ?_
  refine t_norm ?_
  refine w_seq ?_
  refine rg_text ?_
  refine x_val rfl rfl rfl (v_move rfl) ?_
  refine x_call (R := fun v wa wb => ∃ v1 v2, v = .agg #[.int .i64 p.first, .int .i64 p.days, v1, v2] ∧ patRd (fun b => wa.heap.size ≤ b) wb p v1 v2) rfl rfl rfl Tryz.func20 (by kernel_rfl) rfl (fun w1 hw1 => by
    have h := c_pattern w1 (hl.keep (Kept.later (hw1.base (by simp))))
    rw [hP] at h
    exact h.mono fun e w2 ⟨v1, v2, h1, h2, h3⟩ => ⟨_, h1, h2, v1, v2, rfl, h3⟩) ?_
  intro v23 wa23 wb23 hm23 hl23 hR23
  obtain ⟨v1, v2, rfl, hp1, hp2, hpa, hpb⟩ := hR23
  obtain ⟨A1, c1, rfl, -⟩ := id hpa
  obtain ⟨A2, c2, rfl, -⟩ := id hpb
  refine x_alloc rfl rfl rfl zr24 ?_
  intro p8
  refine x_store0 [] rfl rfl rfl rfl sz24 rfl rfl ?_
  refine x_end ?_
  refine t_norm ?_
  refine w_seq ?_
  refine rg_text ?_
  refine x_val rfl rfl rfl (v_load_blk (e := 24) (fz := (0, 0)) (cs := ([Value.int .i64 p.first, Value.int .i64 p.days, Value.slice A1 p.lv.length c1, Value.slice A2 p.st.length c2]).toArray) Tryz.underlying24 rfl rfl (.head _) (by exact sz24)) ?_
  refine x_own (τ := Nat × RowS × RowS) (fun x => .pointer (some ⟨x.1, 0, none⟩)) (fun x => SerOK p [] x.2.1 x.2.2 none) (fun x => (x.1, Obj.cells (serC p x.2.1 x.2.2 none 0).toArray 79 (0, 0)) :: (rowO 87 none ++ (rowO 3 x.2.1 ++ (rowO 3 x.2.2 ++ [(p8, Obj.cells ([Value.int .i64 p.first, Value.int .i64 p.days, Value.slice A1 p.lv.length c1, Value.slice A2 p.st.length c2]).toArray 24 (0, 0))])))) rfl rfl rfl Tryz.func21 (by kernel_rfl) rfl (fun w1 hw1 => (c_New p w1 (⟨hp1, hp2, keep_new hpa hw1 (by repeat (first | exact List.Mem.head _ | apply List.Mem.tail)) hm23, keep_new hpb hw1 (by repeat (first | exact List.Mem.head _ | apply List.Mem.tail)) hm23⟩ : patRd (fun _ => True) w1 p (Value.slice A1 p.lv.length c1) (Value.slice A2 p.st.length c2)) hq (hL.later (hw1.base (by simp)))).mono fun e w2 ⟨bq, r1, r2, h1, h2, h3, h4⟩ => ⟨(bq, r1, r2), h1, h2, h3, (hw1.join2 h4).to (by simp [rowO, List.append_assoc]; rfl)⟩) ?_
  intro q hS0
  obtain ⟨bs, r1, r2⟩ := q
  dsimp only at hS0 ⊢
  refine x_val rfl rfl rfl (v_assign rfl) ?_
  refine x_end ?_
  refine t_norm ?_
  refine w_seq ?_
  refine rg_text ?_
  refine x_val (v := Value.agg (stC (List.replicate 60 0)).toArray) rfl rfl rfl (v_buildArr Tryz.underlying45 zr45 sz5 rfl (by kernel_rfl)) ?_
  refine x_alloc rfl rfl rfl zr45 ?_
  intro p10
  refine x_store0 [] rfl rfl rfl rfl sz45 rfl rfl ?_
  refine x_end ?_
  refine t_norm ?_
  refine w_seq ?_
  refine w_seq ?_
  refine rg_text ?_
  refine x_buildSlice0 rfl rfl rfl Tryz.underlying41 sz5 ?_
  intro p27
  refine x_val rfl rfl rfl (v_move rfl) ?_
  obtain ⟨hno29, hat29, _⟩ := bytes_news har
  refine x_append_any (e := 5) (news := byC ar) [] (l2 := ((p10, Obj.cells (stC (List.replicate 60 0)).toArray 45 (0, 0)) :: (bs, Obj.cells (serC p r1 r2 none 0).toArray 79 (0, 0)) :: (rowO 87 none ++ (rowO 3 r1 ++ (rowO 3 r2 ++ [(p8, Obj.cells ([Value.int .i64 p.first, Value.int .i64 p.days, Value.slice A1 p.lv.length c1, Value.slice A2 p.st.length c2]).toArray 24 (0, 0))]))))) (some (p27, [], 0)) (len := 0) (xs := []) rfl rfl rfl rfl rfl ⟨rfl, Nat.le_refl _, Nat.zero_le _, rfl, rfl⟩ Tryz.underlying41 ap5 rfl (by rw [byC_len, Nat.mul_one]) hno29 (fun w1 hw1 => hat29 w1 (hw1.base (w0 := w) (by simp))) (byC_one _) (by simp only [maxLen]; omega) (by omega) ?_
  intro ra hra
  rw [List.nil_append, Nat.zero_add] at hra
  rw [Nat.zero_add ar.length]
  refine x_val rfl rfl rfl (v_move rfl) ?_
  obtain ⟨hno31, hat31, _⟩ := bytes_news hsk
  refine x_append_any (e := 5) (news := byC sk) [] (l2 := ((p10, Obj.cells (stC (List.replicate 60 0)).toArray 45 (0, 0)) :: (bs, Obj.cells (serC p r1 r2 none 0).toArray 79 (0, 0)) :: (rowO 87 none ++ (rowO 3 r1 ++ (rowO 3 r2 ++ [(p8, Obj.cells ([Value.int .i64 p.first, Value.int .i64 p.days, Value.slice A1 p.lv.length c1, Value.slice A2 p.st.length c2]).toArray 24 (0, 0))]))))) ra (len := ar.length) (xs := (byC ar)) rfl rfl rfl rfl rfl hra Tryz.underlying41 ap5 rfl (by rw [byC_len, Nat.mul_one]) hno31 (fun w1 hw1 => hat31 w1 (hw1.base (w0 := w) (by simp))) (byC_one _) (by simp only [maxLen]; omega) (by omega) ?_
  intro rb hrb
  rw [show byC ar ++ byC sk = byC (ar ++ sk) from (List.map_append ..).symm] at hrb
  refine x_val rfl rfl rfl (v_len_slice Tryz.underlying41 rfl) ?_
  refine x_val rfl rfl rfl (v_move rfl) ?_
  refine x_end ?_
  refine t_norm ?_
  refine w_block ?_
  refine w_loop (σ := Nat × List Nat × RowS) (fun x => x.1 ≤ (ar.length + sk.length) ∧ x.2.1.length = 60 ∧ (∀ q ∈ x.2.1, q ≤ 2) ∧ rowOK 4 x.2.2 (cFrom p x.2.1 0 60).length (entsC (cFrom p x.2.1 0 60))) (fun x => [(1, Value.slice AR ar.length cR), (7, Value.bool true), (8, Value.pointer (some ⟨p8, 0, none⟩)), (9, Value.pointer (some ⟨bs, 0, none⟩)), (10, Value.pointer (some ⟨p10, 0, none⟩)), (31, rowV rb (ar.length + sk.length)), (32, Value.int .i64 ((ar.length + sk.length) : Nat)), (33, Value.int .i64 (x.1 : Nat))]) (fun x => (bs, Obj.cells (serC p r1 r2 x.2.2 (cFrom p x.2.1 0 60).length).toArray 79 (0, 0)) :: (rowO 87 x.2.2 ++ (rowO 3 r1 ++ (rowO 3 r2 ++ ((p8, Obj.cells ([Value.int .i64 p.first, Value.int .i64 p.days, Value.slice A1 p.lv.length c1, Value.slice A2 p.st.length c2]).toArray 24 (0, 0)) :: (rowO 5 rb ++ [(p10, Obj.cells (stC x.2.1).toArray 45 (0, 0))])))))) (fun x => [(wb23, notOwn []), (w, fun _ => True)]) (fun x => (ar.length + sk.length) - x.1) ((0, (List.replicate 60 0), none)) (⟨Nat.zero_le _, by simp, by intro q hq; rw [List.eq_of_mem_replicate hq]; decide, by rw [cFrom_zero (fun x hx => List.eq_of_mem_replicate hx)]; exact rowOK_nil⟩) (l_start (by repeat (first | exact Sub.nil | refine Sub.cons rfl ?_)) (fun w1 h => ((h.to (by simp [rowO, List.append_assoc] : _ = (rowO 5 rb ++ [(p10, Obj.cells (stC (List.replicate 60 0)).toArray 45 (0, 0))]) ++ ((bs, Obj.cells (serC p r1 r2 none 0).toArray 79 (0, 0)) :: (rowO 3 r1 ++ (rowO 3 r2 ++ [(p8, Obj.cells ([Value.int .i64 p.first, Value.int .i64 p.days, Value.slice A1 p.lv.length c1, Value.slice A2 p.st.length c2]).toArray 24 (0, 0))]))))).perm List.perm_append_comm).to (by simp only [cFrom_zero (st := (List.replicate 60 0)) (fun x hx => List.eq_of_mem_replicate hx)]; simp [rowO, List.append_assoc]))) ?_
  rintro ⟨k, st, R⟩ ⟨hk, hsl, hs2, hR⟩
  refine w_state ([(1, Value.slice AR ar.length cR), (7, Value.bool true), (8, Value.pointer (some ⟨p8, 0, none⟩)), (9, Value.pointer (some ⟨bs, 0, none⟩)), (10, Value.pointer (some ⟨p10, 0, none⟩)), (31, rowV rb (ar.length + sk.length)), (32, Value.int .i64 ((ar.length + sk.length) : Nat)), (33, Value.int .i64 (k : Nat))]) ((bs, Obj.cells (serC p r1 r2 R (cFrom p st 0 60).length).toArray 79 (0, 0)) :: (rowO 87 R ++ (rowO 3 r1 ++ (rowO 3 r2 ++ ((p8, Obj.cells ([Value.int .i64 p.first, Value.int .i64 p.days, Value.slice A1 p.lv.length c1, Value.slice A2 p.st.length c2]).toArray 24 (0, 0)) :: (rowO 5 rb ++ [(p10, Obj.cells (stC st).toArray 45 (0, 0))])))))) ([(wb23, notOwn []), (w, fun _ => True)]) ?_
  dsimp only at hk hsl hs2 hR
  refine w_seq ?_
  refine rg_text ?_
  refine x_bool rfl rfl rfl (v_lss rfl rfl) ?_
  intro b34 hb34
  refine x_end ?_
  refine t_norm ?_
  refine w_seq ?_
  refine w_cond rfl (fun hc34 => ?_) (fun hc34 => ?_)
  · simp only [hb34, decide_eq_true_eq, decide_eq_false_iff_not, Bool.and_eq_true, Bool.or_eq_true, Bool.and_eq_false_iff, Bool.or_eq_false_iff, Bool.not_eq_true', Bool.not_eq_false', ne_eq, Decidable.not_not] at hc34
    have hkl : k < (ar ++ sk).length := by rw [List.length_append]; omega
    obtain ⟨b0, cs0, cp0, hrbe, hcs0⟩ := hrb.cell (j := k) (by rw [byC_len]; exact hkl)
    replace hcs0 := hcs0.trans ((List.getElem?_eq_getElem (by rw [byC_len]; exact hkl)).symm.trans (byC_at hkl))
    have ha60 : ((ar ++ sk)[k].toNat % 60) < 60 := Nat.mod_lt _ (by decide)
    have hdd1 : 0 ≤ (((ar ++ sk)[k].toNat % 60) : Nat) * p.days := Int.mul_nonneg (by omega) (by omega)
    have hdd2 : (((ar ++ sk)[k].toNat % 60) : Nat) * p.days ≤ 60 * 10000 := Int.mul_le_mul (by omega) hpd.2 (by omega) (by decide)
    have hokd : okDay (p.first + (((ar ++ sk)[k].toNat % 60) : Nat) * p.days) := by unfold okDay; omega
    refine w_skip ?_
    refine t_norm ?_
    refine w_seq ?_
    refine w_block ?_
    refine w_seq ?_
    refine rg_text ?_
    refine x_val rfl rfl rfl (v_move rfl) ?_
    refine x_val rfl rfl rfl (v_indexAddr (j := k) Tryz.underlying41 sz5 (congrArg (fun q => some (rowV q (ar.length + sk.length))) hrbe) rfl (by first | omega | (dsimp only; omega)) rfl) ?_
    refine x_val rfl rfl rfl (v_load Tryz.underlying5 rfl rfl (at_ownL (vs := cs0) (by rw [hrbe]; repeat (first | exact List.Mem.head _ | apply List.Mem.tail | apply List.mem_append_right)) (by rw [Nat.mul_one, Nat.zero_add]; exact hcs0))) ?_
    refine x_val rfl rfl rfl (v_assign rfl) ?_
    refine x_val rfl rfl rfl (v_assign rfl) ?_
    refine x_end ?_
    refine t_norm ?_
    refine w_seq ?_
    refine rg_text ?_
    refine x_val rfl rfl rfl (v_move rfl) ?_
    refine x_val rfl rfl rfl (v_conv64 Tryz.underlying5 Tryz.underlying3 rfl (by have := (ar ++ sk)[k].toNat_lt; omega)) ?_
    refine x_val (v := Value.int .i64 (((ar ++ sk)[k].toNat % 60) : Nat)) rfl rfl rfl (v_remN (b := 60) rfl rfl (by decide)) ?_
    refine x_val rfl rfl rfl (v_assign rfl) ?_
    refine x_end ?_
    refine t_norm ?_
    refine w_seq ?_
    refine rg_text ?_
    refine x_val rfl rfl rfl (v_load_blk (e := 24) (fz := (0, 0)) (cs := ([Value.int .i64 p.first, Value.int .i64 p.days, Value.slice A1 p.lv.length c1, Value.slice A2 p.st.length c2]).toArray) Tryz.underlying24 rfl rfl (by repeat (first | exact List.Mem.head _ | apply List.Mem.tail | apply List.mem_append_right)) (by exact sz24)) ?_
    refine x_val rfl rfl rfl (v_move rfl) ?_
    refine x_callv (v := Value.string (txN (numsP p (((ar ++ sk)[k].toNat % 60) : Nat)))) rfl rfl rfl Tryz.func22 (by kernel_rfl) rfl (fun w1 hw1 => c_Text p (((ar ++ sk)[k].toNat % 60) : Nat) w1 (⟨hp1, hp2, keep_new hpa hw1 (by repeat (first | exact List.Mem.head _ | apply List.Mem.tail)) hm23, keep_new hpb hw1 (by repeat (first | exact List.Mem.head _ | apply List.Mem.tail)) hm23⟩ : patRd (fun _ => True) w1 p (Value.slice A1 p.lv.length c1) (Value.slice A2 p.st.length c2)) hq (by omega) (by omega)) ?_
    refine x_val rfl rfl rfl (v_assign rfl) ?_
    refine x_val rfl rfl rfl (v_assign rfl) ?_
    refine x_end ?_
    refine t_norm ?_
    refine w_seq_cut (σ := Nat) (fun v9 => v9 = 1 ∨ v9 = 2) (fun v9 => [(1, Value.slice AR ar.length cR), (7, Value.bool true), (8, Value.pointer (some ⟨p8, 0, none⟩)), (9, Value.pointer (some ⟨bs, 0, none⟩)), (10, Value.pointer (some ⟨p10, 0, none⟩)), (31, rowV rb (ar.length + sk.length)), (32, Value.int .i64 ((ar.length + sk.length) : Nat)), (13, Value.int .i64 (((ar ++ sk)[k].toNat % 60) : Nat)), (14, Value.string (isT p (decide (v9 = 2)) (((ar ++ sk)[k].toNat % 60) : Nat))), (15, Value.int .u8 (v9 : Nat)), (33, Value.int .i64 (k : Nat))]) (fun v9 => (bs, Obj.cells (serC p r1 r2 R (cFrom p st 0 60).length).toArray 79 (0, 0)) :: (rowO 87 R ++ (rowO 3 r1 ++ (rowO 3 r2 ++ ((p8, Obj.cells ([Value.int .i64 p.first, Value.int .i64 p.days, Value.slice A1 p.lv.length c1, Value.slice A2 p.st.length c2]).toArray 24 (0, 0)) :: (rowO 5 rb ++ [(p10, Obj.cells (stC st).toArray 45 (0, 0))])))))) (fun v9 => [(wb23, notOwn []), (w, fun _ => True)]) ?_ ?_
    · refine w_seq ?_
      refine rg_text ?_
      refine x_val rfl rfl rfl (v_move rfl) ?_
      refine x_val rfl rfl rfl (v_move rfl) ?_
      refine x_val rfl rfl rfl (v_len_slice Tryz.underlying41 rfl) ?_
      refine x_bool rfl rfl rfl (v_geq rfl rfl) ?_
      intro b47 hb47
      refine x_end ?_
      refine t_norm ?_
      refine w_cond rfl (fun hc47 => ?_) (fun hc47 => ?_)
      · simp only [hb47, decide_eq_true_eq, decide_eq_false_iff_not, Bool.and_eq_true, Bool.or_eq_true, Bool.and_eq_false_iff, Bool.or_eq_false_iff, Bool.not_eq_true', Bool.not_eq_false', ne_eq, Decidable.not_not] at hc47
        refine rg_text ?_
        refine x_val rfl rfl rfl (v_move rfl) ?_
        refine x_val rfl rfl rfl (v_sadd (s := ⟨#[120]⟩) rfl rfl (by have hz := txTo_sz (nums_in64 hq (show (0 : Int) ≤ (((ar ++ sk)[k].toNat % 60) : Nat) by omega) (by omega)) _ (Nat.le_refl _); have := (nums_tx hq (show (0 : Int) ≤ (((ar ++ sk)[k].toNat % 60) : Nat) by omega) (by omega)).2.1; show 1 + (txN _).size ≤ _; unfold txN; omega)) ?_
        refine x_val rfl rfl rfl (v_assign rfl) ?_
        refine x_val rfl rfl rfl (v_assign rfl) ?_
        refine x_end ?_
        exact c_norm 2 (.inr rfl) (by repeat (first | exact Sub.nil | refine Sub.cons rfl ?_)) (fun _ h => h)
      · simp only [hb47, decide_eq_true_eq, decide_eq_false_iff_not, Bool.and_eq_true, Bool.or_eq_true, Bool.and_eq_false_iff, Bool.or_eq_false_iff, Bool.not_eq_true', Bool.not_eq_false', ne_eq, Decidable.not_not] at hc47
        refine w_skip ?_
        exact c_norm 1 (.inl rfl) (by repeat (first | exact Sub.nil | refine Sub.cons rfl ?_)) (fun _ h => h)
    · rintro v9 hv9
      refine w_state ([(1, Value.slice AR ar.length cR), (7, Value.bool true), (8, Value.pointer (some ⟨p8, 0, none⟩)), (9, Value.pointer (some ⟨bs, 0, none⟩)), (10, Value.pointer (some ⟨p10, 0, none⟩)), (31, rowV rb (ar.length + sk.length)), (32, Value.int .i64 ((ar.length + sk.length) : Nat)), (13, Value.int .i64 (((ar ++ sk)[k].toNat % 60) : Nat)), (14, Value.string (isT p (decide (v9 = 2)) (((ar ++ sk)[k].toNat % 60) : Nat))), (15, Value.int .u8 (v9 : Nat)), (33, Value.int .i64 (k : Nat))]) ((bs, Obj.cells (serC p r1 r2 R (cFrom p st 0 60).length).toArray 79 (0, 0)) :: (rowO 87 R ++ (rowO 3 r1 ++ (rowO 3 r2 ++ ((p8, Obj.cells ([Value.int .i64 p.first, Value.int .i64 p.days, Value.slice A1 p.lv.length c1, Value.slice A2 p.st.length c2]).toArray 24 (0, 0)) :: (rowO 5 rb ++ [(p10, Obj.cells (stC st).toArray 45 (0, 0))])))))) ([(wb23, notOwn []), (w, fun _ => True)]) ?_
      refine w_seq ?_
      refine rg_text ?_
      refine x_val rfl rfl rfl (v_assign rfl) ?_
      refine x_end ?_
      refine t_norm ?_
      refine w_seq_cut (σ := List Nat × Int) (fun y => y.1.length = 60 ∧ (∀ q ∈ y.1, q ≤ 2) ∧ takeQ p (cFrom p st 0 60) (isT p (decide (v9 = 2)) (((ar ++ sk)[k].toNat % 60) : Nat)) (p.first + (((ar ++ sk)[k].toNat % 60) : Nat) * p.days) = ((cFrom p y.1 0 60), y.2)) (fun y => [(1, Value.slice AR ar.length cR), (7, Value.bool true), (8, Value.pointer (some ⟨p8, 0, none⟩)), (9, Value.pointer (some ⟨bs, 0, none⟩)), (10, Value.pointer (some ⟨p10, 0, none⟩)), (31, rowV rb (ar.length + sk.length)), (32, Value.int .i64 ((ar.length + sk.length) : Nat)), (13, Value.int .i64 (((ar ++ sk)[k].toNat % 60) : Nat)), (14, Value.string (isT p (decide (v9 = 2)) (((ar ++ sk)[k].toNat % 60) : Nat))), (16, Value.int .i64 y.2), (33, Value.int .i64 (k : Nat))]) (fun y => (bs, Obj.cells (serC p r1 r2 R (cFrom p st 0 60).length).toArray 79 (0, 0)) :: (rowO 87 R ++ (rowO 3 r1 ++ (rowO 3 r2 ++ ((p8, Obj.cells ([Value.int .i64 p.first, Value.int .i64 p.days, Value.slice A1 p.lv.length c1, Value.slice A2 p.st.length c2]).toArray 24 (0, 0)) :: (rowO 5 rb ++ [(p10, Obj.cells (stC y.1).toArray 45 (0, 0))])))))) (fun y => [(wb23, notOwn []), (w, fun _ => True)]) ?_ ?_
      · refine w_seq ?_
        refine rg_text ?_
        refine x_val rfl rfl rfl (v_move rfl) ?_
        refine x_val rfl rfl rfl (v_indexArr (j := ((ar ++ sk)[k].toNat % 60)) Tryz.underlying45 sz5 rfl rfl (by first | omega | (dsimp only; omega)) rfl) ?_
        refine x_val rfl rfl rfl (v_load Tryz.underlying5 rfl rfl (at_ownL (vs := stC st) (by repeat (first | exact List.Mem.head _ | apply List.Mem.tail | apply List.mem_append_right)) (by rw [Nat.mul_one, Nat.zero_add]; exact stC_at (by omega)))) ?_
        refine x_bool rfl rfl rfl (v_neq rfl rfl) ?_
        intro b53 hb53
        refine x_end ?_
        refine t_norm ?_
        refine w_cond rfl (fun hc53 => ?_) (fun hc53 => ?_)
        · simp only [hb53, decide_eq_true_eq, decide_eq_false_iff_not, Bool.and_eq_true, Bool.or_eq_true, Bool.and_eq_false_iff, Bool.or_eq_false_iff, Bool.not_eq_true', Bool.not_eq_false', ne_eq, Decidable.not_not] at hc53
          refine rg_text ?_
          refine x_val rfl rfl rfl (v_assign rfl) ?_
          refine x_end ?_
          have hz : st.getD ((ar ++ sk)[k].toNat % 60) 0 ≠ 0 := by omega
          exact c_norm (st, 22) ⟨hsl, hs2, by rw [clm_take hq ha60 (by decide) hsl hv9 hokd, if_pos hz]⟩ (by repeat (first | exact Sub.nil | refine Sub.cons rfl ?_)) (fun _ h => h)
        · simp only [hb53, decide_eq_true_eq, decide_eq_false_iff_not, Bool.and_eq_true, Bool.or_eq_true, Bool.and_eq_false_iff, Bool.or_eq_false_iff, Bool.not_eq_true', Bool.not_eq_false', ne_eq, Decidable.not_not] at hc53
          refine rg_text ?_
          refine x_val rfl rfl rfl (v_move rfl) ?_
          refine x_val rfl rfl rfl (v_move rfl) ?_
          refine x_val rfl rfl rfl (v_indexArr (j := ((ar ++ sk)[k].toNat % 60)) Tryz.underlying45 sz5 rfl rfl (by first | omega | (dsimp only; omega)) rfl) ?_
          refine x_store (cs := stC st) (off := 0 + ((ar ++ sk)[k].toNat % 60) * 1) (e := 45) (l2 := []) ((bs, Obj.cells (serC p r1 r2 R (cFrom p st 0 60).length).toArray 79 (0, 0)) :: (rowO 87 R ++ (rowO 3 r1 ++ (rowO 3 r2 ++ ((p8, Obj.cells ([Value.int .i64 p.first, Value.int .i64 p.days, Value.slice A1 p.lv.length c1, Value.slice A2 p.st.length c2]).toArray 24 (0, 0)) :: rowO 5 rb))))) rfl rfl rfl (by simp [List.append_assoc]) sz5 rfl (by rw [Nat.mul_one, Nat.zero_add]; show _ ≤ (stC st).length; unfold stC; rw [List.length_map]; omega) ?_
          rw [stC_put (by omega)]
          refine x_end ?_
          have hz : ¬st.getD ((ar ++ sk)[k].toNat % 60) 0 ≠ 0 := by omega
          exact c_norm (st.set ((ar ++ sk)[k].toNat % 60) v9, 0) ⟨by rw [List.length_set]; exact hsl, fun q hq9 => by rcases List.mem_or_eq_of_mem_set hq9 with h | h; (· exact hs2 q h); omega, by rw [clm_take hq ha60 (by decide) hsl hv9 hokd, if_neg hz]⟩ (by repeat (first | exact Sub.nil | refine Sub.cons rfl ?_)) (fun w1 h => h.to (by simp [List.append_assoc]))
      · rintro ⟨st', want⟩ ⟨hsl', hs2', hT⟩
        refine w_state ([(1, Value.slice AR ar.length cR), (7, Value.bool true), (8, Value.pointer (some ⟨p8, 0, none⟩)), (9, Value.pointer (some ⟨bs, 0, none⟩)), (10, Value.pointer (some ⟨p10, 0, none⟩)), (31, rowV rb (ar.length + sk.length)), (32, Value.int .i64 ((ar.length + sk.length) : Nat)), (13, Value.int .i64 (((ar ++ sk)[k].toNat % 60) : Nat)), (14, Value.string (isT p (decide (v9 = 2)) (((ar ++ sk)[k].toNat % 60) : Nat))), (16, Value.int .i64 want), (33, Value.int .i64 (k : Nat))]) ((bs, Obj.cells (serC p r1 r2 R (cFrom p st 0 60).length).toArray 79 (0, 0)) :: (rowO 87 R ++ (rowO 3 r1 ++ (rowO 3 r2 ++ ((p8, Obj.cells ([Value.int .i64 p.first, Value.int .i64 p.days, Value.slice A1 p.lv.length c1, Value.slice A2 p.st.length c2]).toArray 24 (0, 0)) :: (rowO 5 rb ++ [(p10, Obj.cells (stC st').toArray 45 (0, 0))])))))) ([(wb23, notOwn []), (w, fun _ => True)]) ?_
        dsimp only at hsl' hs2' hT
        refine w_seq ?_
        refine rg_text ?_
        refine x_val rfl rfl rfl (v_move rfl) ?_
        refine x_val rfl rfl rfl (v_move rfl) ?_
        refine x_val rfl rfl rfl (v_fieldAddr (off' := 0) Tryz.underlying24 rfl sz3 (by decide) rfl rfl) ?_
        refine x_val rfl rfl rfl (v_load Tryz.underlying3 rfl rfl (at_ownL (vs := [Value.int .i64 p.first, Value.int .i64 p.days, Value.slice A1 p.lv.length c1, Value.slice A2 p.st.length c2]) (by repeat (first | exact List.Mem.head _ | apply List.Mem.tail | apply List.mem_append_right)) rfl)) ?_
        refine x_val rfl rfl rfl (v_move rfl) ?_
        refine x_val rfl rfl rfl (v_fieldAddr (off' := 1) Tryz.underlying24 rfl sz3 (by decide) rfl rfl) ?_
        refine x_val rfl rfl rfl (v_load Tryz.underlying3 rfl rfl (at_ownL (vs := [Value.int .i64 p.first, Value.int .i64 p.days, Value.slice A1 p.lv.length c1, Value.slice A2 p.st.length c2]) (by repeat (first | exact List.Mem.head _ | apply List.Mem.tail | apply List.mem_append_right)) rfl)) ?_
        refine x_val rfl rfl rfl (v_muli rfl rfl rfl (by first | omega | (dsimp only; omega))) ?_
        refine x_val rfl rfl rfl (v_addi rfl rfl rfl (by first | omega | (dsimp only; omega))) ?_
        have hsz9 : (isT p (decide (v9 = 2)) (((ar ++ sk)[k].toNat % 60) : Nat)).size ≤ 2000000 := by
          have hz := txTo_sz (nums_in64 hq (show (0 : Int) ≤ (((ar ++ sk)[k].toNat % 60) : Nat) by omega) (by omega)) _ (Nat.le_refl _)
          have h4 := (nums_tx hq (show (0 : Int) ≤ (((ar ++ sk)[k].toNat % 60) : Nat) by omega) (by omega)).2.1
          unfold isT
          split
          · rw [ByteArray.size_append, show (⟨#[120]⟩ : ByteArray).size = 1 from rfl]; unfold txN; omega
          · unfold txN; omega
        refine x_turnf (v := Value.int .i64 want) (fun R' : RowS => rowOK 4 R' (cFrom p st' 0 60).length (entsC (cFrom p st' 0 60))) (fun R' => (bs, Obj.cells (serC p r1 r2 R' (cFrom p st' 0 60).length).toArray 79 (0, 0)) :: (rowO 87 R' ++ (rowO 3 r1 ++ (rowO 3 r2 ++ ((p8, Obj.cells ([Value.int .i64 p.first, Value.int .i64 p.days, Value.slice A1 p.lv.length c1, Value.slice A2 p.st.length c2]).toArray 24 (0, 0)) :: (rowO 5 rb ++ [(p10, Obj.cells (stC st').toArray 45 (0, 0))])))))) rfl rfl Tryz.func23 (by kernel_rfl) rfl (fun w1 hw1 => by
          have h := c_Take (w0 := w) p (cFrom p st 0 60) (isT p (decide (v9 = 2)) (((ar ++ sk)[k].toNat % 60) : Nat)) (p.first + (((ar ++ sk)[k].toNat % 60) : Nat) * p.days) hw1 (by simp) hL (hS0.with hR (fun x hx => (cFrom_ok hpf hpd (by decide) x hx).in)) hsz9 (by unfold in64; omega) (by have := cFrom_len p st 0 60; omega)
          rw [hT] at h
          exact h.mono fun e w2 ⟨R', h1, h2, h3⟩ => ⟨h1, R', h2, h3⟩) ?_
        intro R' hR'
        refine x_val rfl rfl rfl (v_move rfl) ?_
        refine x_bool rfl rfl rfl (v_neq rfl rfl) ?_
        intro b68 hb68
        refine x_end ?_
        refine t_norm ?_
        refine w_cond rfl (fun hc68 => ?_) (fun hc68 => ?_)
        · rw [hb68] at hc68; simp at hc68
        · skip
          refine w_skip ?_
          refine b_norm ?_
          refine t_norm ?_
          refine rg_text ?_
          refine x_val rfl rfl rfl (v_addi rfl rfl rfl (by first | omega | (dsimp only; omega))) ?_
          refine x_val rfl rfl rfl (v_move rfl) ?_
          refine x_end ?_
          exact l_norm (x := (k, st, R)) (μ := fun q : Nat × List Nat × RowS => (ar.length + sk.length) - q.1) (k + 1, st', R') ⟨by dsimp only; rw [List.length_append] at hkl; omega, hsl', hs2', hR'⟩ (by simp only; rw [List.length_append] at hkl; omega) (by repeat (first | exact Sub.nil | refine Sub.cons rfl ?_)) (fun _ h => h)
  · skip
    refine w_exit ?_
    refine t_exit ?_
    refine t_exit ?_
    refine b_hit ?_
    refine t_norm ?_
    refine w_seq ?_
    refine rg_text ?_
    refine x_val rfl rfl rfl (v_assign rfl) ?_
    refine x_val rfl rfl rfl (v_assign rfl) ?_
    refine x_end ?_
    refine t_norm ?_
    refine w_seq ?_
    refine w_seq ?_
    refine rg_text ?_
    refine x_val rfl rfl rfl (v_load_blk (e := 24) (fz := (0, 0)) (cs := ([Value.int .i64 p.first, Value.int .i64 p.days, Value.slice A1 p.lv.length c1, Value.slice A2 p.st.length c2]).toArray) Tryz.underlying24 rfl rfl (by repeat (first | exact List.Mem.head _ | apply List.Mem.tail | apply List.mem_append_right)) (by exact sz24)) ?_
    obtain ⟨xs, hxs⟩ : ∃ xs, predQ p 60 = xs := ⟨_, rfl⟩
    have hxl : xs.length = 60 := by rw [← hxs, predQ_n hq, predP_len]; rfl
    have hget : ∀ (k : Nat) (h : k < xs.length), xs[k] = issP p (k : Nat) := fun k h => by
      subst hxs
      simp only [predQ_n hq]
      exact pred_get _
    refine x_call (R := fun v wa wb => sliceRd tyIss (fun b => wa.heap.size ≤ b) wb v xs) rfl rfl rfl Tryz.func12 (by kernel_rfl) rfl (fun w1 hw1 => by
      have h := c_rPredict p 60 w1 (⟨hp1, hp2, keep_new hpa hw1 (by repeat (first | exact List.Mem.head _ | apply List.Mem.tail)) hm23, keep_new hpb hw1 (by repeat (first | exact List.Mem.head _ | apply List.Mem.tail)) hm23⟩ : patRd (fun _ => True) w1 p (Value.slice A1 p.lv.length c1) (Value.slice A2 p.st.length c2)) (by unfold in64; decide)
      rw [hxs] at h; exact h) ?_
    intro v71 wa71 wb71 hm71 hl71 hR71
    obtain ⟨Ai, ci, rfl, hic, himx, -⟩ := id hR71
    refine x_val rfl rfl rfl (v_len_slice Tryz.underlying30 rfl) ?_
    refine x_val rfl rfl rfl (v_move rfl) ?_
    refine x_end ?_
    refine t_norm ?_
    refine w_block ?_
    refine w_fix (rowO 49 none ++ (rowO 49 none ++ ((bs, Obj.cells (serC p r1 r2 R (cFrom p st 0 60).length).toArray 79 (0, 0)) :: (rowO 87 R ++ (rowO 3 r1 ++ (rowO 3 r2 ++ ((p8, Obj.cells ([Value.int .i64 p.first, Value.int .i64 p.days, Value.slice A1 p.lv.length c1, Value.slice A2 p.st.length c2]).toArray 24 (0, 0)) :: (rowO 5 rb ++ [(p10, Obj.cells (stC st).toArray 45 (0, 0))])))))))) (List.Sublist.refl _) (fun ws0 hm0 => ?_)
    refine w_loop (σ := Nat × Nat × Nat × RowS × RowS × World) (fun x => x.1 ≤ 60 ∧ (clmL p st (fun x => decide (x = 0)) 0 x.1).length = x.2.1 ∧ (clmL p st (fun x => decide (x = 1)) 0 x.1).length = x.2.2.1 ∧ RowT tyIss (newD w (rowO 49 x.2.2.2.1 ++ (rowO 49 x.2.2.2.2.1 ++ ((bs, Obj.cells (serC p r1 r2 R (cFrom p st 0 60).length).toArray 79 (0, 0)) :: (rowO 87 R ++ (rowO 3 r1 ++ (rowO 3 r2 ++ ((p8, Obj.cells ([Value.int .i64 p.first, Value.int .i64 p.days, Value.slice A1 p.lv.length c1, Value.slice A2 p.st.length c2]).toArray 24 (0, 0)) :: (rowO 5 rb ++ [(p10, Obj.cells (stC st).toArray 45 (0, 0))]))))))))) x.2.2.2.2.2 x.2.2.2.1 (clmL p st (fun x => decide (x = 0)) 0 x.1) ∧ RowT tyIss (newD w (rowO 49 x.2.2.2.1 ++ (rowO 49 x.2.2.2.2.1 ++ ((bs, Obj.cells (serC p r1 r2 R (cFrom p st 0 60).length).toArray 79 (0, 0)) :: (rowO 87 R ++ (rowO 3 r1 ++ (rowO 3 r2 ++ ((p8, Obj.cells ([Value.int .i64 p.first, Value.int .i64 p.days, Value.slice A1 p.lv.length c1, Value.slice A2 p.st.length c2]).toArray 24 (0, 0)) :: (rowO 5 rb ++ [(p10, Obj.cells (stC st).toArray 45 (0, 0))]))))))))) x.2.2.2.2.2 x.2.2.2.2.1 (clmL p st (fun x => decide (x = 1)) 0 x.1)) (fun x => [(7, Value.bool true), (8, Value.pointer (some ⟨p8, 0, none⟩)), (9, Value.pointer (some ⟨bs, 0, none⟩)), (10, Value.pointer (some ⟨p10, 0, none⟩)), (17, rowV x.2.2.2.1 x.2.1), (18, rowV x.2.2.2.2.1 x.2.2.1), (71, Value.slice Ai xs.length ci), (72, Value.int .i64 (xs.length : Nat)), (73, Value.int .i64 (x.1 : Nat))]) (fun x => rowO 49 x.2.2.2.1 ++ (rowO 49 x.2.2.2.2.1 ++ ((bs, Obj.cells (serC p r1 r2 R (cFrom p st 0 60).length).toArray 79 (0, 0)) :: (rowO 87 R ++ (rowO 3 r1 ++ (rowO 3 r2 ++ ((p8, Obj.cells ([Value.int .i64 p.first, Value.int .i64 p.days, Value.slice A1 p.lv.length c1, Value.slice A2 p.st.length c2]).toArray 24 (0, 0)) :: (rowO 5 rb ++ [(p10, Obj.cells (stC st).toArray 45 (0, 0))])))))))) (fun x => (x.2.2.2.2.2, notOwn (rowO 49 x.2.2.2.1 ++ (rowO 49 x.2.2.2.2.1 ++ ((bs, Obj.cells (serC p r1 r2 R (cFrom p st 0 60).length).toArray 79 (0, 0)) :: (rowO 87 R ++ (rowO 3 r1 ++ (rowO 3 r2 ++ ((p8, Obj.cells ([Value.int .i64 p.first, Value.int .i64 p.days, Value.slice A1 p.lv.length c1, Value.slice A2 p.st.length c2]).toArray 24 (0, 0)) :: (rowO 5 rb ++ [(p10, Obj.cells (stC st).toArray 45 (0, 0))]))))))))) :: (wb71, notOwn ((bs, Obj.cells (serC p r1 r2 R (cFrom p st 0 60).length).toArray 79 (0, 0)) :: (rowO 87 R ++ (rowO 3 r1 ++ (rowO 3 r2 ++ ((p8, Obj.cells ([Value.int .i64 p.first, Value.int .i64 p.days, Value.slice A1 p.lv.length c1, Value.slice A2 p.st.length c2]).toArray 24 (0, 0)) :: (rowO 5 rb ++ [(p10, Obj.cells (stC st).toArray 45 (0, 0))]))))))) :: [(wb23, notOwn []), (w, fun _ => True)]) (fun x => 60 - x.1) ((0, 0, 0, none, none, ws0)) (⟨Nat.zero_le _, rfl, rfl, RowT.nil, RowT.nil⟩) (l_start (by repeat (first | exact Sub.nil | refine Sub.cons rfl ?_)) (fun _ h => h)) ?_
    rintro ⟨k, m, h, M, H9, ws⟩ ⟨hk, hlm, hlh, hTM, hTH⟩
    refine w_state ([(7, Value.bool true), (8, Value.pointer (some ⟨p8, 0, none⟩)), (9, Value.pointer (some ⟨bs, 0, none⟩)), (10, Value.pointer (some ⟨p10, 0, none⟩)), (17, rowV M m), (18, rowV H9 h), (71, Value.slice Ai xs.length ci), (72, Value.int .i64 (xs.length : Nat)), (73, Value.int .i64 (k : Nat))]) (rowO 49 M ++ (rowO 49 H9 ++ ((bs, Obj.cells (serC p r1 r2 R (cFrom p st 0 60).length).toArray 79 (0, 0)) :: (rowO 87 R ++ (rowO 3 r1 ++ (rowO 3 r2 ++ ((p8, Obj.cells ([Value.int .i64 p.first, Value.int .i64 p.days, Value.slice A1 p.lv.length c1, Value.slice A2 p.st.length c2]).toArray 24 (0, 0)) :: (rowO 5 rb ++ [(p10, Obj.cells (stC st).toArray 45 (0, 0))])))))))) ((ws, notOwn (rowO 49 M ++ (rowO 49 H9 ++ ((bs, Obj.cells (serC p r1 r2 R (cFrom p st 0 60).length).toArray 79 (0, 0)) :: (rowO 87 R ++ (rowO 3 r1 ++ (rowO 3 r2 ++ ((p8, Obj.cells ([Value.int .i64 p.first, Value.int .i64 p.days, Value.slice A1 p.lv.length c1, Value.slice A2 p.st.length c2]).toArray 24 (0, 0)) :: (rowO 5 rb ++ [(p10, Obj.cells (stC st).toArray 45 (0, 0))]))))))))) :: (wb71, notOwn ((bs, Obj.cells (serC p r1 r2 R (cFrom p st 0 60).length).toArray 79 (0, 0)) :: (rowO 87 R ++ (rowO 3 r1 ++ (rowO 3 r2 ++ ((p8, Obj.cells ([Value.int .i64 p.first, Value.int .i64 p.days, Value.slice A1 p.lv.length c1, Value.slice A2 p.st.length c2]).toArray 24 (0, 0)) :: (rowO 5 rb ++ [(p10, Obj.cells (stC st).toArray 45 (0, 0))]))))))) :: [(wb23, notOwn []), (w, fun _ => True)]) ?_
    dsimp only at hk hlm hlh hTM hTH
    refine w_seq ?_
    refine rg_text ?_
    refine x_bool rfl rfl rfl (v_lss rfl rfl) ?_
    intro b74 hb74
    refine x_end ?_
    refine t_norm ?_
    refine w_seq ?_
    refine w_cond rfl (fun hc74 => ?_) (fun hc74 => ?_)
    · simp only [hb74, decide_eq_true_eq, decide_eq_false_iff_not, Bool.and_eq_true, Bool.or_eq_true, Bool.and_eq_false_iff, Bool.or_eq_false_iff, Bool.not_eq_true', Bool.not_eq_false', ne_eq, Decidable.not_not] at hc74
      have hkx : k < xs.length := by omega
      have hm6 : m ≤ k := by rw [← hlm]; exact clmL_len p st _ 0 k
      have hh6 : h ≤ k := by rw [← hlh]; exact clmL_len p st _ 0 k
      obtain ⟨bi, oi, vn, hAi, hDi, hcn, hcd, hnn, _⟩ := iss_at hR71 hkx
      rw [hget _ hkx] at hcd hnn
      replace hnn : sliceRd tyI (fun b => wa71.heap.size ≤ b) wb71 vn (numsP p (k : Nat)) := hnn
      obtain ⟨An, cn, rfl, -⟩ := id hnn
      have hdy := day_rng hq (show (0 : Int) ≤ (k : Nat) by omega) (show ((k : Nat) : Int) ≤ 2000000 by omega)
      refine w_skip ?_
      refine t_norm ?_
      refine w_seq ?_
      refine w_block ?_
      refine w_seq ?_
      refine rg_text ?_
      refine x_val rfl rfl rfl (v_move rfl) ?_
      refine x_val rfl rfl rfl (v_indexAddr (j := k) Tryz.underlying30 sz49 (congrArg (fun A => some (Value.slice A xs.length ci)) hAi) rfl (by first | omega | (dsimp only; omega)) rfl) ?_
      refine x_val rfl rfl rfl (v_loadN (vs := [Value.slice An (numsP p (k : Nat)).length cn, Value.int .i64 (p.first + (k : Nat) * p.days)]) Tryz.underlying49 rfl sz49 rfl (fun j hj => at_ro (s := (wb71, notOwn ((bs, Obj.cells (serC p r1 r2 R (cFrom p st 0 60).length).toArray 79 (0, 0)) :: (rowO 87 R ++ (rowO 3 r1 ++ (rowO 3 r2 ++ ((p8, Obj.cells ([Value.int .i64 p.first, Value.int .i64 p.days, Value.slice A1 p.lv.length c1, Value.slice A2 p.st.length c2]).toArray 24 (0, 0)) :: (rowO 5 rb ++ [(p10, Obj.cells (stC st).toArray 45 (0, 0))])))))))) (by simp) (fun q hq he => by have := hm71.lt hq; omega) (by match j, hj with | 0, _ => exact hcn | 1, _ => exact hcd))) ?_
      refine x_alloc rfl rfl rfl zr49 ?_
      intro p20
      refine x_val rfl rfl rfl (v_assign rfl) ?_
      refine x_store0 [] rfl rfl rfl rfl sz49 rfl rfl ?_
      refine x_end ?_
      refine t_norm ?_
      refine w_seq ?_
      refine rg_text ?_
      refine x_val rfl rfl rfl (v_move rfl) ?_
      refine x_val rfl rfl rfl (v_indexArr (j := k) Tryz.underlying45 sz5 rfl rfl (by first | omega | (dsimp only; omega)) rfl) ?_
      refine x_val rfl rfl rfl (v_load Tryz.underlying5 rfl rfl (at_ownL (vs := stC st) (by repeat (first | exact List.Mem.head _ | apply List.Mem.tail | apply List.mem_append_right)) (by rw [Nat.mul_one, Nat.zero_add]; exact stC_at (by omega)))) ?_
      refine x_bool rfl rfl rfl (v_eql rfl rfl) ?_
      intro b81 hb81
      refine x_end ?_
      refine t_norm ?_
      refine w_cond rfl (fun hc81 => ?_) (fun hc81 => ?_)
      · simp only [hb81, decide_eq_true_eq, decide_eq_false_iff_not, Bool.and_eq_true, Bool.or_eq_true, Bool.and_eq_false_iff, Bool.or_eq_false_iff, Bool.not_eq_true', Bool.not_eq_false', ne_eq, Decidable.not_not] at hc81
        have hz0 : st.getD k 0 = 0 := by omega
        refine rg_text ?_
        refine x_val rfl rfl rfl (v_move rfl) ?_
        refine x_val rfl rfl rfl (v_load_blk (e := 49) (fz := (0, 0)) (cs := ([Value.slice An (numsP p (k : Nat)).length cn, Value.int .i64 (p.first + (k : Nat) * p.days)]).toArray) Tryz.underlying49 rfl rfl (.head _) (by exact sz49)) ?_
        refine x_buildSliceL (cs := [Value.slice An (numsP p (k : Nat)).length cn, Value.int .i64 (p.first + (k : Nat) * p.days)]) rfl rfl rfl Tryz.underlying30 sz49 zr49 rfl rfl rfl ?_
        intro p84
        obtain ⟨css, hcl, hrow, hrd⟩ := hTM
        rw [hlm] at hcl hrow
        refine x_append (e := 49) [(p84, Obj.cells ([Value.slice An (numsP p (k : Nat)).length cn, Value.int .i64 (p.first + (k : Nat) * p.days)]).toArray 49 (0, 0)), (p20, Obj.cells ([Value.slice An (numsP p (k : Nat)).length cn, Value.int .i64 (p.first + (k : Nat) * p.days)]).toArray 49 (0, 0))] (l2 := rowO 49 H9 ++ ((bs, Obj.cells (serC p r1 r2 R (cFrom p st 0 60).length).toArray 79 (0, 0)) :: (rowO 87 R ++ (rowO 3 r1 ++ (rowO 3 r2 ++ ((p8, Obj.cells ([Value.int .i64 p.first, Value.int .i64 p.days, Value.slice A1 p.lv.length c1, Value.slice A2 p.st.length c2]).toArray 24 (0, 0)) :: (rowO 5 rb ++ [(p10, Obj.cells (stC st).toArray 45 (0, 0))]))))))) M (len := m) (xs := css.flatten) rfl rfl rfl rfl (by simp [List.append_assoc] <;> rfl) hrow Tryz.underlying30 ap49 rfl rfl (m := 1) (news := [Value.slice An (numsP p (k : Nat)).length cn, Value.int .i64 (p.first + (k : Nat) * p.days)]) (fun i hi => at_ownL (vs := [Value.slice An (numsP p (k : Nat)).length cn, Value.int .i64 (p.first + (k : Nat) * p.days)]) (.head _) (by rw [Nat.zero_add]; exact List.getElem?_eq_getElem hi)) rfl (by simp only [maxLen]; omega) (by omega) ?_
        intro M' hr'
        refine x_val rfl rfl rfl (v_assign rfl) ?_
        refine x_end ?_
        refine b_norm ?_
        refine t_norm ?_
        refine rg_text ?_
        refine x_val rfl rfl rfl (v_addi rfl rfl rfl (by first | omega | (dsimp only; omega))) ?_
        refine x_val rfl rfl rfl (v_move rfl) ?_
        refine x_end ?_
        refine s_fix (rowO 49 M' ++ (rowO 49 H9 ++ ((bs, Obj.cells (serC p r1 r2 R (cFrom p st 0 60).length).toArray 79 (0, 0)) :: (rowO 87 R ++ (rowO 3 r1 ++ (rowO 3 r2 ++ ((p8, Obj.cells ([Value.int .i64 p.first, Value.int .i64 p.days, Value.slice A1 p.lv.length c1, Value.slice A2 p.st.length c2]).toArray 24 (0, 0)) :: (rowO 5 rb ++ [(p10, Obj.cells (stC st).toArray 45 (0, 0))])))))))) (by simp only [List.append_assoc, List.cons_append, List.nil_append]; repeat (first | exact List.Sublist.refl _ | apply List.Sublist.cons)) (fun w0 hm0 => ?_)
        have hK := Kept.frz (w := w) (ws := ws) (ownh := rowO 49 M ++ (rowO 49 H9 ++ ((bs, Obj.cells (serC p r1 r2 R (cFrom p st 0 60).length).toArray 79 (0, 0)) :: (rowO 87 R ++ (rowO 3 r1 ++ (rowO 3 r2 ++ ((p8, Obj.cells ([Value.int .i64 p.first, Value.int .i64 p.days, Value.slice A1 p.lv.length c1, Value.slice A2 p.st.length c2]).toArray 24 (0, 0)) :: (rowO 5 rb ++ [(p10, Obj.cells (stC st).toArray 45 (0, 0))])))))))) (own' := rowO 49 M' ++ (rowO 49 H9 ++ ((bs, Obj.cells (serC p r1 r2 R (cFrom p st 0 60).length).toArray 79 (0, 0)) :: (rowO 87 R ++ (rowO 3 r1 ++ (rowO 3 r2 ++ ((p8, Obj.cells ([Value.int .i64 p.first, Value.int .i64 p.days, Value.slice A1 p.lv.length c1, Value.slice A2 p.st.length c2]).toArray 24 (0, 0)) :: (rowO 5 rb ++ [(p10, Obj.cells (stC st).toArray 45 (0, 0))])))))))) hm0 (by simp only [List.append_assoc, List.cons_append, List.nil_append]; repeat (first | exact List.Sublist.refl _ | apply List.Sublist.cons)) (by simp)
        have hT' := snocN (T := tyIss) (D := newD w (rowO 49 M' ++ (rowO 49 H9 ++ ((bs, Obj.cells (serC p r1 r2 R (cFrom p st 0 60).length).toArray 79 (0, 0)) :: (rowO 87 R ++ (rowO 3 r1 ++ (rowO 3 r2 ++ ((p8, Obj.cells ([Value.int .i64 p.first, Value.int .i64 p.days, Value.slice A1 p.lv.length c1, Value.slice A2 p.st.length c2]).toArray 24 (0, 0)) :: (rowO 5 rb ++ [(p10, Obj.cells (stC st).toArray 45 (0, 0))]))))))))) (ws := w0) (x := issP p (k : Nat)) hlm hcl (fun j h1 h2 => tyIss.keep (hrd j h1 h2) hK) hr' ⟨_, rfl, hnn.keep (Kept.made (hm0.less (by simp only [List.append_assoc, List.cons_append, List.nil_append]; repeat (first | exact List.Sublist.refl _ | apply List.Sublist.cons)) (fun _ h => h)) (by simp) hm71 (hm71.base (by simp)).size), by unfold in64; show -9223372036854775808 ≤ p.first + (k : Nat) * p.days ∧ p.first + (k : Nat) * p.days ≤ 9223372036854775807; omega⟩
        have eM : (clmL p st (fun x => decide (x = 0)) 0 (k + 1)) = (clmL p st (fun x => decide (x = 0)) 0 k) ++ [issP p (k : Nat)] := by rw [clmL_snoc p st (fun x => decide (x = 0)) k, if_pos (by rw [decide_eq_true_eq]; omega)]
        have eH : (clmL p st (fun x => decide (x = 1)) 0 (k + 1)) = (clmL p st (fun x => decide (x = 1)) 0 k) := by rw [clmL_snoc p st (fun x => decide (x = 1)) k, if_neg (by rw [decide_eq_true_eq]; omega)]
        exact l_norm (x := (k, m, h, M, H9, ws)) (μ := fun q : Nat × Nat × Nat × RowS × RowS × World => 60 - q.1) (k + 1, m + 1, h, M', H9, w0) ⟨by dsimp only; omega, by dsimp only; rw [eM]; rw [List.length_append, hlm]; rfl, by dsimp only; rw [eH]; exact hlh, by dsimp only; rw [eM]; exact hT', by dsimp only; rw [eH]; exact hTH.keep hK⟩ (by simp only; omega) (by repeat (first | exact Sub.nil | refine Sub.cons rfl ?_)) (fun w1 h => h.less (List.Sublist.refl _) (fun q hq => by simp only [List.mem_cons, List.mem_nil_iff, or_false] at hq ⊢; rcases hq with h | h | h | h <;> simp [h]))
      · simp only [hb81, decide_eq_true_eq, decide_eq_false_iff_not, Bool.and_eq_true, Bool.or_eq_true, Bool.and_eq_false_iff, Bool.or_eq_false_iff, Bool.not_eq_true', Bool.not_eq_false', ne_eq, Decidable.not_not] at hc81
        have hz9 : st.getD k 0 ≠ 0 := by omega
        refine w_seq ?_
        refine rg_text ?_
        refine x_val rfl rfl rfl (v_move rfl) ?_
        refine x_val rfl rfl rfl (v_indexArr (j := k) Tryz.underlying45 sz5 rfl rfl (by first | omega | (dsimp only; omega)) rfl) ?_
        refine x_val rfl rfl rfl (v_load Tryz.underlying5 rfl rfl (at_ownL (vs := stC st) (by repeat (first | exact List.Mem.head _ | apply List.Mem.tail | apply List.mem_append_right)) (by rw [Nat.mul_one, Nat.zero_add]; exact stC_at (by omega)))) ?_
        refine x_bool rfl rfl rfl (v_eql rfl rfl) ?_
        intro b89 hb89
        refine x_end ?_
        refine t_norm ?_
        refine w_cond rfl (fun hc89 => ?_) (fun hc89 => ?_)
        · simp only [hb89, decide_eq_true_eq, decide_eq_false_iff_not, Bool.and_eq_true, Bool.or_eq_true, Bool.and_eq_false_iff, Bool.or_eq_false_iff, Bool.not_eq_true', Bool.not_eq_false', ne_eq, Decidable.not_not] at hc89
          have hz1 : st.getD k 0 = 1 := by omega
          refine rg_text ?_
          refine x_val rfl rfl rfl (v_move rfl) ?_
          refine x_val rfl rfl rfl (v_load_blk (e := 49) (fz := (0, 0)) (cs := ([Value.slice An (numsP p (k : Nat)).length cn, Value.int .i64 (p.first + (k : Nat) * p.days)]).toArray) Tryz.underlying49 rfl rfl (.head _) (by exact sz49)) ?_
          refine x_buildSliceL (cs := [Value.slice An (numsP p (k : Nat)).length cn, Value.int .i64 (p.first + (k : Nat) * p.days)]) rfl rfl rfl Tryz.underlying30 sz49 zr49 rfl rfl rfl ?_
          intro p92
          obtain ⟨css, hcl, hrow, hrd⟩ := hTH
          rw [hlh] at hcl hrow
          refine x_append (e := 49) ([(p92, Obj.cells ([Value.slice An (numsP p (k : Nat)).length cn, Value.int .i64 (p.first + (k : Nat) * p.days)]).toArray 49 (0, 0)), (p20, Obj.cells ([Value.slice An (numsP p (k : Nat)).length cn, Value.int .i64 (p.first + (k : Nat) * p.days)]).toArray 49 (0, 0))] ++ rowO 49 M) (l2 := (bs, Obj.cells (serC p r1 r2 R (cFrom p st 0 60).length).toArray 79 (0, 0)) :: (rowO 87 R ++ (rowO 3 r1 ++ (rowO 3 r2 ++ ((p8, Obj.cells ([Value.int .i64 p.first, Value.int .i64 p.days, Value.slice A1 p.lv.length c1, Value.slice A2 p.st.length c2]).toArray 24 (0, 0)) :: (rowO 5 rb ++ [(p10, Obj.cells (stC st).toArray 45 (0, 0))])))))) H9 (len := h) (xs := css.flatten) rfl rfl rfl rfl (by simp [List.append_assoc] <;> rfl) hrow Tryz.underlying30 ap49 rfl rfl (m := 1) (news := [Value.slice An (numsP p (k : Nat)).length cn, Value.int .i64 (p.first + (k : Nat) * p.days)]) (fun i hi => at_ownL (vs := [Value.slice An (numsP p (k : Nat)).length cn, Value.int .i64 (p.first + (k : Nat) * p.days)]) (.head _) (by rw [Nat.zero_add]; exact List.getElem?_eq_getElem hi)) rfl (by simp only [maxLen]; omega) (by omega) ?_
          intro H' hr'
          refine x_val rfl rfl rfl (v_assign rfl) ?_
          refine x_end ?_
          refine b_norm ?_
          refine t_norm ?_
          refine rg_text ?_
          refine x_val rfl rfl rfl (v_addi rfl rfl rfl (by first | omega | (dsimp only; omega))) ?_
          refine x_val rfl rfl rfl (v_move rfl) ?_
          refine x_end ?_
          refine s_fix (rowO 49 M ++ (rowO 49 H' ++ ((bs, Obj.cells (serC p r1 r2 R (cFrom p st 0 60).length).toArray 79 (0, 0)) :: (rowO 87 R ++ (rowO 3 r1 ++ (rowO 3 r2 ++ ((p8, Obj.cells ([Value.int .i64 p.first, Value.int .i64 p.days, Value.slice A1 p.lv.length c1, Value.slice A2 p.st.length c2]).toArray 24 (0, 0)) :: (rowO 5 rb ++ [(p10, Obj.cells (stC st).toArray 45 (0, 0))])))))))) (by simp only [List.append_assoc, List.cons_append, List.nil_append]; repeat (first | exact List.Sublist.refl _ | apply List.Sublist.cons)) (fun w0 hm0 => ?_)
          have hK := Kept.frz (w := w) (ws := ws) (ownh := rowO 49 M ++ (rowO 49 H9 ++ ((bs, Obj.cells (serC p r1 r2 R (cFrom p st 0 60).length).toArray 79 (0, 0)) :: (rowO 87 R ++ (rowO 3 r1 ++ (rowO 3 r2 ++ ((p8, Obj.cells ([Value.int .i64 p.first, Value.int .i64 p.days, Value.slice A1 p.lv.length c1, Value.slice A2 p.st.length c2]).toArray 24 (0, 0)) :: (rowO 5 rb ++ [(p10, Obj.cells (stC st).toArray 45 (0, 0))])))))))) (own' := rowO 49 M ++ (rowO 49 H' ++ ((bs, Obj.cells (serC p r1 r2 R (cFrom p st 0 60).length).toArray 79 (0, 0)) :: (rowO 87 R ++ (rowO 3 r1 ++ (rowO 3 r2 ++ ((p8, Obj.cells ([Value.int .i64 p.first, Value.int .i64 p.days, Value.slice A1 p.lv.length c1, Value.slice A2 p.st.length c2]).toArray 24 (0, 0)) :: (rowO 5 rb ++ [(p10, Obj.cells (stC st).toArray 45 (0, 0))])))))))) hm0 (by simp only [List.append_assoc, List.cons_append, List.nil_append]; repeat (first | exact List.Sublist.refl _ | apply List.Sublist.cons)) (by simp)
          have hT' := snocN (T := tyIss) (D := newD w (rowO 49 M ++ (rowO 49 H' ++ ((bs, Obj.cells (serC p r1 r2 R (cFrom p st 0 60).length).toArray 79 (0, 0)) :: (rowO 87 R ++ (rowO 3 r1 ++ (rowO 3 r2 ++ ((p8, Obj.cells ([Value.int .i64 p.first, Value.int .i64 p.days, Value.slice A1 p.lv.length c1, Value.slice A2 p.st.length c2]).toArray 24 (0, 0)) :: (rowO 5 rb ++ [(p10, Obj.cells (stC st).toArray 45 (0, 0))]))))))))) (ws := w0) (x := issP p (k : Nat)) hlh hcl (fun j h1 h2 => tyIss.keep (hrd j h1 h2) hK) hr' ⟨_, rfl, hnn.keep (Kept.made (hm0.less (by simp only [List.append_assoc, List.cons_append, List.nil_append]; repeat (first | exact List.Sublist.refl _ | apply List.Sublist.cons)) (fun _ h => h)) (by simp) hm71 (hm71.base (by simp)).size), by unfold in64; show -9223372036854775808 ≤ p.first + (k : Nat) * p.days ∧ p.first + (k : Nat) * p.days ≤ 9223372036854775807; omega⟩
          have eM : (clmL p st (fun x => decide (x = 0)) 0 (k + 1)) = (clmL p st (fun x => decide (x = 0)) 0 k) := by rw [clmL_snoc p st (fun x => decide (x = 0)) k, if_neg (by rw [decide_eq_true_eq]; omega)]
          have eH : (clmL p st (fun x => decide (x = 1)) 0 (k + 1)) = (clmL p st (fun x => decide (x = 1)) 0 k) ++ [issP p (k : Nat)] := by rw [clmL_snoc p st (fun x => decide (x = 1)) k, if_pos (by rw [decide_eq_true_eq]; omega)]
          exact l_norm (x := (k, m, h, M, H9, ws)) (μ := fun q : Nat × Nat × Nat × RowS × RowS × World => 60 - q.1) (k + 1, m, h + 1, M, H', w0) ⟨by dsimp only; omega, by dsimp only; rw [eM]; exact hlm, by dsimp only; rw [eH]; rw [List.length_append, hlh]; rfl, by dsimp only; rw [eM]; exact hTM.keep hK, by dsimp only; rw [eH]; exact hT'⟩ (by simp only; omega) (by repeat (first | exact Sub.nil | refine Sub.cons rfl ?_)) (fun w1 h => h.less (List.Sublist.refl _) (fun q hq => by simp only [List.mem_cons, List.mem_nil_iff, or_false] at hq ⊢; rcases hq with h | h | h | h <;> simp [h]))
        · simp only [hb89, decide_eq_true_eq, decide_eq_false_iff_not, Bool.and_eq_true, Bool.or_eq_true, Bool.and_eq_false_iff, Bool.or_eq_false_iff, Bool.not_eq_true', Bool.not_eq_false', ne_eq, Decidable.not_not] at hc89
          have hz2 : st.getD k 0 ≠ 1 := by omega
          refine w_skip ?_
          refine b_norm ?_
          refine t_norm ?_
          refine rg_text ?_
          refine x_val rfl rfl rfl (v_addi rfl rfl rfl (by first | omega | (dsimp only; omega))) ?_
          refine x_val rfl rfl rfl (v_move rfl) ?_
          refine x_end ?_
          refine s_fix (rowO 49 M ++ (rowO 49 H9 ++ ((bs, Obj.cells (serC p r1 r2 R (cFrom p st 0 60).length).toArray 79 (0, 0)) :: (rowO 87 R ++ (rowO 3 r1 ++ (rowO 3 r2 ++ ((p8, Obj.cells ([Value.int .i64 p.first, Value.int .i64 p.days, Value.slice A1 p.lv.length c1, Value.slice A2 p.st.length c2]).toArray 24 (0, 0)) :: (rowO 5 rb ++ [(p10, Obj.cells (stC st).toArray 45 (0, 0))])))))))) (by simp only [List.append_assoc, List.cons_append, List.nil_append]; repeat (first | exact List.Sublist.refl _ | apply List.Sublist.cons)) (fun w0 hm0 => ?_)
          have hK := Kept.frz (w := w) (ws := ws) (ownh := rowO 49 M ++ (rowO 49 H9 ++ ((bs, Obj.cells (serC p r1 r2 R (cFrom p st 0 60).length).toArray 79 (0, 0)) :: (rowO 87 R ++ (rowO 3 r1 ++ (rowO 3 r2 ++ ((p8, Obj.cells ([Value.int .i64 p.first, Value.int .i64 p.days, Value.slice A1 p.lv.length c1, Value.slice A2 p.st.length c2]).toArray 24 (0, 0)) :: (rowO 5 rb ++ [(p10, Obj.cells (stC st).toArray 45 (0, 0))])))))))) (own' := rowO 49 M ++ (rowO 49 H9 ++ ((bs, Obj.cells (serC p r1 r2 R (cFrom p st 0 60).length).toArray 79 (0, 0)) :: (rowO 87 R ++ (rowO 3 r1 ++ (rowO 3 r2 ++ ((p8, Obj.cells ([Value.int .i64 p.first, Value.int .i64 p.days, Value.slice A1 p.lv.length c1, Value.slice A2 p.st.length c2]).toArray 24 (0, 0)) :: (rowO 5 rb ++ [(p10, Obj.cells (stC st).toArray 45 (0, 0))])))))))) hm0 (by simp only [List.append_assoc, List.cons_append, List.nil_append]; repeat (first | exact List.Sublist.refl _ | apply List.Sublist.cons)) (by simp)
          have eM : (clmL p st (fun x => decide (x = 0)) 0 (k + 1)) = (clmL p st (fun x => decide (x = 0)) 0 k) := by rw [clmL_snoc p st (fun x => decide (x = 0)) k, if_neg (by rw [decide_eq_true_eq]; omega)]
          have eH : (clmL p st (fun x => decide (x = 1)) 0 (k + 1)) = (clmL p st (fun x => decide (x = 1)) 0 k) := by rw [clmL_snoc p st (fun x => decide (x = 1)) k, if_neg (by rw [decide_eq_true_eq]; omega)]
          exact l_norm (x := (k, m, h, M, H9, ws)) (μ := fun q : Nat × Nat × Nat × RowS × RowS × World => 60 - q.1) (k + 1, m, h, M, H9, w0) ⟨by dsimp only; omega, by dsimp only; rw [eM]; exact hlm, by dsimp only; rw [eH]; exact hlh, by dsimp only; rw [eM]; exact hTM.keep hK, by dsimp only; rw [eH]; exact hTH.keep hK⟩ (by simp only; omega) (by repeat (first | exact Sub.nil | refine Sub.cons rfl ?_)) (fun w1 h => h.less (List.Sublist.refl _) (fun q hq => by simp only [List.mem_cons, List.mem_nil_iff, or_false] at hq ⊢; rcases hq with h | h | h | h <;> simp [h]))
    · simp only [hb74, decide_eq_true_eq, decide_eq_false_iff_not, Bool.and_eq_true, Bool.or_eq_true, Bool.and_eq_false_iff, Bool.or_eq_false_iff, Bool.not_eq_true', Bool.not_eq_false', ne_eq, Decidable.not_not] at hc74
      obtain rfl : k = 60 := by omega
      have hSF := hS0.with hR (fun x hx => (cFrom_ok hpf hpd (by decide) x hx).in)
      refine w_exit ?_
      refine t_exit ?_
      refine t_exit ?_
      refine b_hit ?_
      refine t_norm ?_
      refine w_seq ?_
      refine rg_text ?_
      refine x_val rfl rfl rfl (v_move rfl) ?_
      refine x_val rfl rfl rfl (v_move rfl) ?_
      refine x_valg rfl rfl rfl rfl rfl (v_move rfl) ?_
      refine x_valg rfl rfl rfl rfl rfl (v_fieldAddr (off' := 0) Tryz.underlying24 rfl sz3 (by decide) rfl rfl) ?_
      refine x_valg rfl rfl rfl rfl rfl (v_load Tryz.underlying3 rfl rfl (at_ownL (vs := [Value.int .i64 p.first, Value.int .i64 p.days, Value.slice A1 p.lv.length c1, Value.slice A2 p.st.length c2]) (by repeat (first | exact List.Mem.head _ | apply List.Mem.tail | apply List.mem_append_right)) rfl)) ?_
      refine x_valg rfl rfl rfl rfl rfl (v_fieldAddr (off' := 1) Tryz.underlying24 rfl sz3 (by decide) rfl rfl) ?_
      refine x_valg rfl rfl rfl rfl rfl (v_load Tryz.underlying3 rfl rfl (at_ownL (vs := [Value.int .i64 p.first, Value.int .i64 p.days, Value.slice A1 p.lv.length c1, Value.slice A2 p.st.length c2]) (by repeat (first | exact List.Mem.head _ | apply List.Mem.tail | apply List.mem_append_right)) rfl)) ?_
      refine x_valg rfl rfl rfl rfl rfl (v_muli rfl rfl rfl (by first | omega | (dsimp only; omega))) ?_
      refine x_valg rfl rfl rfl rfl rfl (v_addi rfl rfl rfl (by first | omega | (dsimp only; omega))) ?_
      refine x_call_g (R := fun v wa wb => sliceRd tyIss (fun b => wa.heap.size ≤ b) wb v (clmL p st (fun x => decide (x = 0)) 0 60)) rfl rfl rfl rfl rfl Tryz.func24 (by kernel_rfl) rfl (fun w1 hw1 => by
        have h := c_Missing p (cFrom p st 0 60) (p.first + 59 * p.days) w1 (hSF.rd (e := 79) (e1 := 3) (e2 := 87) hw1 (by repeat (first | exact List.Mem.head _ | apply List.Mem.tail | apply List.mem_append_right)) (fun q hq => by repeat (first | exact List.mem_append_left _ hq | exact hq | apply List.mem_append_right | apply List.Mem.tail)) (fun q hq => by repeat (first | exact List.mem_append_left _ hq | exact hq | apply List.mem_append_right | apply List.Mem.tail)) (fun q hq => by repeat (first | exact List.mem_append_left _ hq | exact hq | apply List.mem_append_right | apply List.Mem.tail))) (cFrom_ok hpf hpd (by decide)) (by have := cFrom_len p st 0 60; omega) (by unfold in64; omega) (hL.later (hw1.base (by simp)))
        rw [clm_missP hq st] at h; exact h) ?_
      intro v104 wa104 wb104 hm104 hl104 hR104
      obtain ⟨Aq104, cq104, rfl, -⟩ := id hR104
      refine x_valg rfl rfl rfl rfl rfl (v_move rfl) ?_
      refine x_callbg rfl rfl rfl rfl rfl Tryz.func10 (by kernel_rfl) rfl (fun w1 hw1 => c_SameI w1 (keep_new hR104 hw1 (by repeat (first | exact List.Mem.head _ | apply List.Mem.tail | apply List.mem_append_right)) hm104) ((hTM.keep (Kept.new hw1 (own := rowO 49 M ++ (rowO 49 H9 ++ ((bs, Obj.cells (serC p r1 r2 R (cFrom p st 0 60).length).toArray 79 (0, 0)) :: (rowO 87 R ++ (rowO 3 r1 ++ (rowO 3 r2 ++ ((p8, Obj.cells ([Value.int .i64 p.first, Value.int .i64 p.days, Value.slice A1 p.lv.length c1, Value.slice A2 p.st.length c2]).toArray 24 (0, 0)) :: (rowO 5 rb ++ [(p10, Obj.cells (stC st).toArray 45 (0, 0))])))))))) (by simp))).rd (e := 49) hw1 (fun q hq => by first | exact List.mem_append_left _ hq | exact List.mem_append_right _ (List.mem_append_left _ hq)) (fun _ _ => trivial) (fun _ _ => trivial) hlm.symm)) ?_
      intro b106 hb106
      obtain rfl : b106 = true := hb106.trans (decide_eq_true rfl)
      refine x_bool rfl rfl rfl (v_and rfl rfl) ?_
      intro b107 hb107
      obtain rfl : b107 = true := hb107
      refine x_val rfl rfl rfl (v_move rfl) ?_
      refine x_valg rfl rfl rfl rfl rfl (v_move rfl) ?_
      refine x_call_g (R := fun v wa wb => sliceRd tyIss (fun b => wa.heap.size ≤ b) wb v (clmL p st (fun x => decide (x = 1)) 0 60)) rfl rfl rfl rfl rfl Tryz.func25 (by kernel_rfl) rfl (fun w1 hw1 => by
        have h := c_Held p (cFrom p st 0 60) w1 (hSF.rd (e := 79) (e1 := 3) (e2 := 87) hw1 (by repeat (first | exact List.Mem.head _ | apply List.Mem.tail | apply List.mem_append_right)) (fun q hq => by repeat (first | exact List.mem_append_left _ hq | exact hq | apply List.mem_append_right | apply List.Mem.tail)) (fun q hq => by repeat (first | exact List.mem_append_left _ hq | exact hq | apply List.mem_append_right | apply List.Mem.tail)) (fun q hq => by repeat (first | exact List.mem_append_left _ hq | exact hq | apply List.mem_append_right | apply List.Mem.tail))) (fun _ => hq) (cFrom_ok hpf hpd (by decide)) (by have := cFrom_len p st 0 60; omega)
        rw [show heldP p (cFrom p st 0 60) = (clmL p st (fun x => decide (x = 1)) 0 60) from clm_held hs2 60 0] at h; exact h) ?_
      intro v110 wa110 wb110 hm110 hl110 hR110
      obtain ⟨Aq110, cq110, rfl, -⟩ := id hR110
      refine x_valg rfl rfl rfl rfl rfl (v_move rfl) ?_
      refine x_callbg rfl rfl rfl rfl rfl Tryz.func10 (by kernel_rfl) rfl (fun w1 hw1 => c_SameI w1 (keep_new hR110 hw1 (by repeat (first | exact List.Mem.head _ | apply List.Mem.tail | apply List.mem_append_right)) hm110) ((hTH.keep (Kept.new hw1 (own := rowO 49 M ++ (rowO 49 H9 ++ ((bs, Obj.cells (serC p r1 r2 R (cFrom p st 0 60).length).toArray 79 (0, 0)) :: (rowO 87 R ++ (rowO 3 r1 ++ (rowO 3 r2 ++ ((p8, Obj.cells ([Value.int .i64 p.first, Value.int .i64 p.days, Value.slice A1 p.lv.length c1, Value.slice A2 p.st.length c2]).toArray 24 (0, 0)) :: (rowO 5 rb ++ [(p10, Obj.cells (stC st).toArray 45 (0, 0))])))))))) (by simp))).rd (e := 49) hw1 (fun q hq => by first | exact List.mem_append_left _ hq | exact List.mem_append_right _ (List.mem_append_left _ hq)) (fun _ _ => trivial) (fun _ _ => trivial) hlh.symm)) ?_
      intro b112 hb112
      obtain rfl : b112 = true := hb112.trans (decide_eq_true rfl)
      refine x_bool rfl rfl rfl (v_and rfl rfl) ?_
      intro b113 hb113
      obtain rfl : b113 = true := hb113
      refine x_val rfl rfl rfl (v_move rfl) ?_
      refine x_valg rfl rfl rfl rfl rfl (v_move rfl) ?_
      refine x_valg rfl rfl rfl rfl rfl (v_fieldAddr (off' := 0) Tryz.underlying24 rfl sz3 (by decide) rfl rfl) ?_
      refine x_valg rfl rfl rfl rfl rfl (v_load Tryz.underlying3 rfl rfl (at_ownL (vs := [Value.int .i64 p.first, Value.int .i64 p.days, Value.slice A1 p.lv.length c1, Value.slice A2 p.st.length c2]) (by repeat (first | exact List.Mem.head _ | apply List.Mem.tail | apply List.mem_append_right)) rfl)) ?_
      refine x_valg rfl rfl rfl rfl rfl (v_subi rfl rfl rfl (by first | omega | (dsimp only; omega))) ?_
      refine x_call_g (R := fun v wa wb => sliceRd tyIss (fun b => wa.heap.size ≤ b) wb v []) rfl rfl rfl rfl rfl Tryz.func24 (by kernel_rfl) rfl (fun w1 hw1 => by
        have h := c_Missing p (cFrom p st 0 60) (p.first - 1) w1 (hSF.rd (e := 79) (e1 := 3) (e2 := 87) hw1 (by repeat (first | exact List.Mem.head _ | apply List.Mem.tail | apply List.mem_append_right)) (fun q hq => by repeat (first | exact List.mem_append_left _ hq | exact hq | apply List.mem_append_right | apply List.Mem.tail)) (fun q hq => by repeat (first | exact List.mem_append_left _ hq | exact hq | apply List.mem_append_right | apply List.Mem.tail)) (fun q hq => by repeat (first | exact List.mem_append_left _ hq | exact hq | apply List.mem_append_right | apply List.Mem.tail))) (cFrom_ok hpf hpd (by decide)) (by have := cFrom_len p st 0 60; omega) (by unfold in64; omega) (hL.later (hw1.base (by simp)))
        rw [clm_missN hq st] at h; exact h) ?_
      intro v119 wa119 wb119 hm119 hl119 hR119
      obtain ⟨Aq119, cq119, rfl, -⟩ := id hR119
      refine x_valg rfl rfl rfl rfl rfl (v_len_slice Tryz.underlying30 rfl) ?_
      refine x_boolg rfl rfl rfl rfl rfl (v_eql rfl rfl) ?_
      intro b121 hb121
      obtain rfl : b121 = true := hb121.trans (decide_eq_true rfl)
      refine x_bool rfl rfl rfl (v_and rfl rfl) ?_
      intro b122 hb122
      obtain rfl : b122 = true := hb122
      refine x_val rfl rfl rfl (v_assign rfl) ?_
      refine x_end ?_
      refine t_norm ?_
      refine w_ret ?_
      exact ret1 rfl rfl (fun w' hm => ⟨rfl, hm.base (by simp)⟩)

end Go.Proofs.YtafannhhkfpbeaaGreatDoor
