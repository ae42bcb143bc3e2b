/- Of the proofs of YtifekogdhjabaaaGreatDoor: Zj Zk Zl Zm Zn Zo Zp Xx Xy, put together. -/
import Derived.Test.YtifekogdhjabaaaGreatDoorB8
import Derived.Test.YtifekogdhjabaaaGreatDoorB3
import Derived.Test.YtifekogdhjabaaaGreatDoorB2
import Derived.Test.YtifekogdhjabaaaGreatDoorB6
import Derived.Lay
import Derived.LaidSub
import Derived.Lib.LaidTab
import Derived.Stop.LaidErr
import Derived.Deep.DeepHandedRow
import Derived.SevenTiedAt
import Derived.Test.YtifekogdhjabaaaGreatDoorB1
import Derived.Test.YtifekogdhjabaaaGreatDoorB4
import Derived.Test.YtifekogdhjabaaaGreatDoorB5
import Derived.Test.YtifekogdhjabaaaGreatDoorB7
set_option linter.unusedVariables false
set_option linter.unusedSimpArgs false
set_option maxRecDepth 100000

namespace Go.Proofs.YtifekogdhjabaaaGreatDoor
open Go.RowKit Go.PK
theorem moveG_f {fs : List FG} {id b n : Int} (h : (moveG fs id b n).1 ≠ 0) : (moveG fs id b n).2 = fs := by
 unfold moveG at h ⊢
 split
 ·rename_i h1; rw [if_pos h1] at h; exact postG_f encP_f h
 rename_i h1; rw [if_neg h1] at h; exact postG_f relP_f h
theorem g_read1E (s : ByteArray) (w : World) (hs : s.size ≤ 200000000) (hbig : bigO (parR s).1) (hL : LD w) (h0 : (parR s).2.2 ≠ 0) :
  Calls Tryz.prog 54 #[.string s, .func (.func 55) #[] #[]] w fun e w' => e = .returned (.tuple #[.agg (rdT s).1.cells.toArray, .int .i64 (rdT s).2]) ∧ Later w w' := by
 refine enter (vs := [.string s, .func (.func 55) #[] #[]]) Tryz.func54 rfl Tryz.ntmps54 rfl ?_
 refine Zs (Zr ?_)
 refine x_alloc rfl rfl rfl zr25 ?_
 intro p4
 refine Xa ?_
 refine Ze (Zt (Zs (Zr ?_)))
 refine Xm ?_
 refine x_call (R := fun v wa wb => ∃ A c, v = .tuple #[.slice A (parR s).1.length c, .int .i64 (parR s).2.1, .int .i64 (parR s).2.2] ∧ sliceRd tySeg (fun b => wa.heap.size ≤ b) wb (.slice A (parR s).1.length c) (parR s).1) rfl rfl rfl Tryz.func107 Zk rfl (fun w1 hw1 => (c_Parse s w1 hs).mono fun e w2 ⟨v, h1, h2, h3⟩ => by obtain ⟨A, c, rfl, _⟩ := id h3; exact ⟨_, h1, h2, A, c, rfl, h3⟩) fun v12 wa12 wb12 hm12 hl12 hR12 => ?_
 obtain ⟨A12, c12, rfl, hp12⟩ := hR12
 refine Xm ?_
 refine Xv rfl (v_extract rfl rfl) ?_
 refine Xv rfl (v_extract rfl rfl) ?_
 refine Xv rfl (v_extract rfl rfl) ?_
 refine Xa ?_
 refine Xa ?_
 refine Xa ?_
 refine Ze (Zt (Zs (Zs (Zr ?_))))
 refine Xm ?_
 refine Xb rfl (v_neq rfl rfl) fun b17 hb17 => ?_
 refine Ze (Zt ?_)
 refine w_cond rfl (fun hc17 => ?_) (fun hc17 => ?_)
 ·simp only [hb17, Qz, ne_eq] at hc17
  refine Zs (Zr ?_)
  refine x_alloc rfl rfl rfl zr25 ?_
  intro p9
  refine Ze (Zt (Zs (Zr ?_)))
  refine Xv rfl (v_load_blk (e := 25) (fz := (0, 0)) (cs := zeroO.cells.toArray) u25 rfl rfl (.head _) sz25) ?_
  refine Xm ?_
  refine x_store0 [(p9, Obj.cells zeroO.cells.toArray 25)] rfl rfl rfl rfl sz25 rfl rfl ?_
  refine Xa ?_
  refine Ze (Zt (w_ret (t_ret ?_)))
  have hT : rdT s = (zeroO, (parR s).2.2) := if_pos h0
  rw [hT]
  refine retct (cs := zeroO.cells.toArray) rfl rfl rfl (.tail _ (.head _)) u25 rfl sz25 (fun w1 hm => ⟨rfl, hm.base (by simp)⟩)
 exfalso
 rw [hb17] at hc17
 exact absurd h0 (by simpa using hc17)
theorem g_read2E (s : ByteArray) (w : World) (hs : s.size ≤ 200000000) (hbig : bigO (parR s).1) (hL : LD w) (h0 : (parR s).2.2 ≠ 0) :
  Calls Tryz.prog 59 #[.string s, .func (.func 60) #[] #[]] w fun e w' => ∃ q, e = .returned (.tuple #[q, .int .i64 (rdTI s).2]) ∧ Later w w' ∧ sliceRd tyOrd (fun b => w.heap.size ≤ b) w' q (rdTI s).1 := by
 refine enter (vs := [.string s, .func (.func 60) #[] #[]]) Tryz.func59 rfl Tryz.ntmps59 rfl ?_
 refine Zs (Zr ?_)
 refine Xa ?_
 refine Xa ?_
 refine Ze (Zt (Zs (Zr ?_)))
 refine Xm ?_
 refine x_call (R := fun v wa wb => ∃ A c, v = .tuple #[.slice A (parR s).1.length c, .int .i64 (parR s).2.1, .int .i64 (parR s).2.2] ∧ sliceRd tySeg (fun b => wa.heap.size ≤ b) wb (.slice A (parR s).1.length c) (parR s).1) rfl rfl rfl Tryz.func107 Zk rfl (fun w1 hw1 => (c_Parse s w1 hs).mono fun e w2 ⟨v, h1, h2, h3⟩ => by obtain ⟨A, c, rfl, _⟩ := id h3; exact ⟨_, h1, h2, A, c, rfl, h3⟩) fun v12 wa12 wb12 hm12 hl12 hR12 => ?_
 obtain ⟨A12, c12, rfl, hp12⟩ := hR12
 refine Xm ?_
 refine Xv rfl (v_extract rfl rfl) ?_
 refine Xv rfl (v_extract rfl rfl) ?_
 refine Xv rfl (v_extract rfl rfl) ?_
 refine Xa ?_
 refine Xa ?_
 refine Xa ?_
 refine Ze (Zt (Zs (Zs (Zr ?_))))
 refine Xm ?_
 refine Xb rfl (v_neq rfl rfl) fun b17 hb17 => ?_
 refine Ze (Zt ?_)
 refine w_cond rfl (fun hc17 => ?_) (fun hc17 => ?_)
 ·simp only [hb17, Qz, ne_eq] at hc17
  refine Zs (Zr ?_)
  refine Xa ?_
  refine Ze (Zt (Zs (Zr ?_)))
  refine Xm ?_
  refine Xm ?_
  refine Xa ?_
  refine Xa ?_
  refine Ze (Zt (w_ret (t_ret ?_)))
  have hT : rdTI s = ([], (parR s).2.2) := if_pos h0
  rw [hT]
  exact ret2 rfl rfl rfl (fun w' hm => ⟨_, rfl, hm.base (by simp), nil_rd _ _ _⟩)
 exfalso
 rw [hb17] at hc17
 exact absurd h0 (by simpa using hc17)
theorem g_read1 (s : ByteArray) (w : World) (hs : s.size ≤ 200000000) (hbig : bigO (parR s).1) (hL : LD w) : Calls Tryz.prog 54 #[.string s, .func (.func 55) #[] #[]] w fun e w' => e = .returned (.tuple #[.agg (rdT s).1.cells.toArray, .int .i64 (rdT s).2]) ∧ Later w w' := by
 by_cases h0 : (parR s).2.2 = 0
 ·have hT : rdT s = rdO (parR s).1 := if_neg (fun q => q h0)
  rw [hT]
  exact c_read1 s w hs h0 hbig hL
 exact g_read1E s w hs hbig hL h0
theorem g_read2 (s : ByteArray) (w : World) (hs : s.size ≤ 200000000) (hbig : bigO (parR s).1) (hL : LD w) : Calls Tryz.prog 59 #[.string s, .func (.func 60) #[] #[]] w fun e w' => ∃ q, e = .returned (.tuple #[q, .int .i64 (rdTI s).2]) ∧ Later w w' ∧ sliceRd tyOrd (fun b => w.heap.size ≤ b) w' q (rdTI s).1 := by
 by_cases h0 : (parR s).2.2 = 0
 ·have hT : rdTI s = rdI (parR s).1 := if_neg (fun q => q h0)
  rw [hT]
  exact c_read2 s w hs h0 hbig hL
 exact g_read2E s w hs hbig hL h0
theorem g_AnswerE {w : World} {L : List (Nat × Obj)} {ro : List Snap} {mF pF pO mO ckF ckO : Nat} {esF esO : Array MapEntry} {money : Int} {ms : List FM} {s : SG} (hm : Mem w ((pO, Obj.cells (orC pF s.tol mO).toArray 38) :: (mO, Obj.map esO ckO) :: (mF, Obj.map esF ckF) :: (pF, Obj.cells (fnC mF money).toArray 125) :: (FB 130 ms ++ L)) ro) (hF : MapF Tryz.prog 3 esF (fMM ms)) (hO : MapC Tryz.prog 3 esO ckO (fOL s.L)) (hfs : fsM ms = s.fs) (hok : SGok s) {ws : World} (hws : (ws, fun _ => True) ∈ ro) (hL : LD ws) (s0 : ByteArray) (hs : s0.size ≤ 200000000) (hbig : bigO (parR s0).1) {a : PK.Ord} {c : Int} (hrd : rdT s0 = (a, c)) (hc0 : c ≠ 0) :
  Calls Tryz.prog 13 #[.pointer (some ⟨pO, 0, none⟩), .string s0] w fun e w' => e = .returned (.int .i64 (answerG s a c).1) ∧ ∃ q : Array MapEntry × Nat × List FM, (MapC Tryz.prog 3 q.1 q.2.1 (fOL (answerG s a c).2.L) ∧ fsM q.2.2 = (answerG s a c).2.fs ∧ fMM q.2.2 = fMM ms ∧ (answerG s a c).2.tol = s.tol) ∧ Mem w' ((pO, Obj.cells (orC pF s.tol mO).toArray 38) :: (mO, Obj.map q.1 q.2.1) :: (mF, Obj.map esF ckF) :: (pF, Obj.cells (fnC mF money).toArray 125) :: (FB 130 q.2.2 ++ L)) ro := by
 refine enter_in hm (vs := [.pointer (some ⟨pO, 0, none⟩), .string s0]) Tryz.func13 rfl Tryz.ntmps13 rfl ?_
 refine Zs (Zr ?_)
 refine Xa ?_
 refine Ze (Zt (Zs (Zs (Zr ?_))))
 refine Xm ?_
 refine Xv (v := Value.bool false) rfl (v_pnil (o := some ⟨pO, 0, none⟩) u27 rfl rfl) ?_
 refine Ze (Zt ?_)
 refine w_cond rfl (fun hc12 => ?_) (fun hc12 => ?_)
 ·cases hc12
 skip
 refine w_skip (Zt (Zs (Zr ?_)))
 refine Xm ?_
 refine x_callv (v := Value.tuple #[.agg a.cells.toArray, .int .i64 c]) rfl rfl rfl Tryz.func54 Zk rfl (fun w1 hw1 => by have h := g_read1 s0 w1 hs hbig (hL.later (hw1.base (by first | exact hws | exact .tail _ hws | exact .tail _ (.tail _ hws) | exact .tail _ (.tail _ (.tail _ hws))))); rw [hrd] at h; exact h) ?_
 refine Xm ?_
 refine Xv rfl (v_extract rfl rfl) ?_
 refine Xv rfl (v_extract rfl rfl) ?_
 refine x_alloc rfl rfl rfl zr25 ?_
 intro p5
 refine x_store0 [] rfl rfl rfl rfl sz25 rfl rfl ?_
 refine Xa ?_
 refine Ze (Zt (Zs (Zs (Zr ?_))))
 refine Xm ?_
 refine Xb rfl (v_neq rfl rfl) fun b19 hb19 => ?_
 refine Ze (Zt ?_)
 refine w_cond rfl (fun hc19 => ?_) (fun hc19 => ?_)
 ·simp only [hb19, Qz, ne_eq] at hc19
  refine Zs (Zr ?_)
  refine Xm ?_
  refine Xa ?_
  refine Ze (Zt (w_ret (t_ret ?_)))
  refine ret1 rfl rfl (fun w' hm' => ?_)
  rw [show (answerG s a c) = (c, s) from if_pos hc0]
  exact ⟨rfl, (esO, ckO, ms), ⟨hO, hfs, rfl, rfl⟩, hm'.less (List.sublist_cons_self _ _) (fun _ h => h)⟩
 exfalso
 rw [hb19] at hc19
 exact absurd (by simpa using hc19) hc0
theorem g_AnswerM {w : World} {L : List (Nat × Obj)} {ro : List Snap} {mF pF pO mO ckF ckO : Nat} {esF esO : Array MapEntry} {money : Int} {ms : List FM} {s : SG} (hm : Mem w ((pO, Obj.cells (orC pF s.tol mO).toArray 38) :: (mO, Obj.map esO ckO) :: (mF, Obj.map esF ckF) :: (pF, Obj.cells (fnC mF money).toArray 125) :: (FB 130 ms ++ L)) ro) (hF : MapF Tryz.prog 3 esF (fMM ms)) (hO : MapC Tryz.prog 3 esO ckO (fOL s.L)) (hfs : fsM ms = s.fs) (hok : SGok s) {ws : World} (hws : (ws, fun _ => True) ∈ ro) (hL : LD ws) (s0 : ByteArray) (hs : s0.size ≤ 200000000) (hbig : bigO (parR s0).1) {a : PK.Ord} (hrd : rdT s0 = (a, 0)) (hl : lkL s.L a.id = none) :
  Calls Tryz.prog 13 #[.pointer (some ⟨pO, 0, none⟩), .string s0] w fun e w' => e = .returned (.int .i64 (answerG s a 0).1) ∧ ∃ q : Array MapEntry × Nat × List FM, (MapC Tryz.prog 3 q.1 q.2.1 (fOL (answerG s a 0).2.L) ∧ fsM q.2.2 = (answerG s a 0).2.fs ∧ fMM q.2.2 = fMM ms ∧ (answerG s a 0).2.tol = s.tol) ∧ Mem w' ((pO, Obj.cells (orC pF s.tol mO).toArray 38) :: (mO, Obj.map q.1 q.2.1) :: (mF, Obj.map esF ckF) :: (pF, Obj.cells (fnC mF money).toArray 125) :: (FB 130 q.2.2 ++ L)) ro := by
 have hwo : wrO a := by have := rdT_wr (s := s0) (by rw [hrd]); rw [hrd] at this; exact this
 unfold wrO at hwo
 obtain ⟨⟨y1, y2⟩, ⟨y3, y4⟩, ⟨y9, y10⟩, ⟨y11, y12⟩, ⟨y5, y6⟩, y7, y8⟩ := hwo
 have hid : in64 a.id := by unfold in64; omega

 refine enter_in hm (vs := [.pointer (some ⟨pO, 0, none⟩), .string s0]) Tryz.func13 rfl Tryz.ntmps13 rfl ?_
 refine Zs (Zr ?_)
 refine Xa ?_
 refine Ze (Zt (Zs (Zs (Zr ?_))))
 refine Xm ?_
 refine Xv (v := Value.bool false) rfl (v_pnil (o := some ⟨pO, 0, none⟩) u27 rfl rfl) ?_
 refine Ze (Zt ?_)
 refine w_cond rfl (fun hc12 => ?_) (fun hc12 => ?_)
 ·cases hc12
 skip
 refine w_skip (Zt (Zs (Zr ?_)))
 refine Xm ?_
 refine x_callv (v := Value.tuple #[.agg a.cells.toArray, .int .i64 0]) rfl rfl rfl Tryz.func54 Zk rfl (fun w1 hw1 => by have h := g_read1 s0 w1 hs hbig (hL.later (hw1.base (by first | exact hws | exact .tail _ hws | exact .tail _ (.tail _ hws) | exact .tail _ (.tail _ (.tail _ hws))))); rw [hrd] at h; exact h) ?_
 refine Xm ?_
 refine Xv rfl (v_extract rfl rfl) ?_
 refine Xv rfl (v_extract rfl rfl) ?_
 refine x_alloc rfl rfl rfl zr25 ?_
 intro p5
 refine x_store0 [] rfl rfl rfl rfl sz25 rfl rfl ?_
 refine Xa ?_
 refine Ze (Zt (Zs (Zs (Zr ?_))))
 refine Xm ?_
 refine Xb rfl (v_neq rfl rfl) fun b19 hb19 => ?_
 refine Ze (Zt ?_)
 refine w_cond rfl (fun hc19 => ?_) (fun hc19 => ?_)
 ·exfalso
  rw [hb19] at hc19
  revert hc19; simp
 simp only [hb19, Qz, ne_eq] at hc19
 refine w_skip (Zt (Zs ?_))
 refine rg_inv ((p5, Obj.cells a.cells.toArray 25) :: (pO, Obj.cells (orC pF s.tol mO).toArray 38) :: (mO, Obj.map esO ckO) :: (mF, Obj.map esF ckF) :: (pF, Obj.cells (fnC mF money).toArray 125) :: (FB 130 ms ++ L)) 13 (.flt 0 (.flt 1 (.flt 2 (.flt 3 (.flt 4 (.flt 5 (.flt 6 (.flt 7 (.flt 8 (.flt 9 (.gr 10 (.gr 11 (.flt 12 .done) .nil) .nil))))))))))) (.refl _) Zk Zk ?_
 refine j_val rfl rfl (v_move rfl) ?_
 refine j_val rfl rfl (v_nilCheck rfl) ?_
 refine j_val rfl rfl (v_fieldAddr (off' := 2) u38 rfl sz36 (by decide) rfl rfl) ?_
 refine j_val rfl rfl (v_load u36 rfl rfl (at_ownL (vs := orC pF s.tol mO) (.tail _ (.head _)) rfl)) ?_
 refine j_val rfl rfl (v_fieldAddr (off' := 0) u25 rfl sz3 (by decide) rfl rfl) ?_
 refine j_val rfl rfl (v_load u3 rfl rfl (at_ownL (vs := a.cells) (.head _) rfl)) ?_
 refine j_val (v := Value.tuple #[.agg (orC10 zeroO 0).toArray, .bool false]) rfl rfl (v_lookup2H u36 (Maps.int_keyed u3) zr100 rfl rfl (Maps.keyOf_int_mk u3 (wf_in hid)) (map_own (.tail _ (.tail _ (.head _)))) hO.f (by rw [fOL_at, hl]; rfl) (by rw [fOL_at, hl]; rfl)) ?_
 refine j_val rfl rfl (v_move rfl) ?_
 refine j_val rfl rfl (v_extract rfl rfl) ?_
 refine j_bool rfl rfl (v_extract rfl rfl) fun b30 hb30 => ?_
 refine j_gr ?_ j_nil
 refine x_alloc rfl rfl rfl zr100 ?_
 intro p7
 refine Ze ?_
 refine j_end (List.sublist_cons_self _ _) ?_
 refine j_gr ?_ j_nil
 refine x_store0 [] rfl rfl rfl rfl sz100 rfl rfl ?_
 refine Ze ?_
 refine j_end (List.sublist_cons_self _ _) ?_
 refine j_val rfl rfl (v_assign rfl) ?_
 refine j_done ?_
 refine Ze (Zt (Zs (w_block (Zs (Zr ?_)))))
 refine Xm ?_
 refine Xb rfl (v_not rfl) fun b33 hb33 => ?_
 refine Xa ?_
 refine Ze (Zt ?_)
 refine w_cond rfl (fun hc31 => ?_) (fun hc31 => ?_)
 ·simp only [hb33, hb30, Qz, ne_eq] at hc31
  refine Zs (Zr ?_)
  refine Xa ?_
  refine Ze (Zt (w_ret (b_ret (t_ret ?_))))
  refine ret1 rfl rfl (fun w' hm' => ?_)
  rw [show (answerG s a 0) = (32, s) from by unfold answerG; rw [if_neg (by decide), hl]]
  exact ⟨rfl, (esO, ckO, ms), ⟨hO, hfs, rfl, rfl⟩, hm'.less ((List.sublist_cons_self _ _).trans (List.sublist_cons_self _ _)) (fun _ h => h)⟩
 exfalso
 rw [hb33, hb30] at hc31
 revert hc31; simp
set_option maxHeartbeats 1000000 in
theorem g_AnswerH {w : World} {L : List (Nat × Obj)} {ro : List Snap} {mF pF pO mO ckF ckO : Nat} {esF esO : Array MapEntry} {money : Int} {ms : List FM} {s : SG} (hm : Mem w ((pO, Obj.cells (orC pF s.tol mO).toArray 38) :: (mO, Obj.map esO ckO) :: (mF, Obj.map esF ckF) :: (pF, Obj.cells (fnC mF money).toArray 125) :: (FB 130 ms ++ L)) ro) (hF : MapF Tryz.prog 3 esF (fMM ms)) (hO : MapC Tryz.prog 3 esO ckO (fOL s.L)) (hfs : fsM ms = s.fs) (hok : SGok s) {ws : World} (hws : (ws, fun _ => True) ∈ ro) (hL : LD ws) (s0 : ByteArray) (hs : s0.size ≤ 200000000) (hbig : bigO (parR s0).1) {a : PK.Ord} {x : PK.Ord} {first : Int} (hrd : rdT s0 = (a, 0)) (hl : lkL s.L a.id = some (x, first)) :
  Calls Tryz.prog 13 #[.pointer (some ⟨pO, 0, none⟩), .string s0] w fun e w' => e = .returned (.int .i64 (answerG s a 0).1) ∧ ∃ q : Array MapEntry × Nat × List FM, (MapC Tryz.prog 3 q.1 q.2.1 (fOL (answerG s a 0).2.L) ∧ fsM q.2.2 = (answerG s a 0).2.fs ∧ fMM q.2.2 = fMM ms ∧ (answerG s a 0).2.tol = s.tol) ∧ Mem w' ((pO, Obj.cells (orC pF s.tol mO).toArray 38) :: (mO, Obj.map q.1 q.2.1) :: (mF, Obj.map esF ckF) :: (pF, Obj.cells (fnC mF money).toArray 125) :: (FB 130 q.2.2 ++ L)) ro := by
 have hwo : wrO a := by have := rdT_wr (s := s0) (by rw [hrd]); rw [hrd] at this; exact this
 unfold wrO at hwo
 obtain ⟨⟨y1, y2⟩, ⟨y3, y4⟩, ⟨y9, y10⟩, ⟨y11, y12⟩, ⟨y5, y6⟩, y7, y8⟩ := hwo
 have hid : in64 a.id := by unfold in64; omega
 obtain ⟨hx, hfi1, hfi2⟩ := hok.at hl
 have hxid : x.id = a.id := (lkL_mem hl).2
 have hhere : (lkL s.L x.id).isSome = true := by rw [hxid, hl]; rfl
 have htol := hok.tol
 have hfk : ∀ f ∈ fsM ms, fundOK f.s := by rw [hfs]; exact hok.fs
 obtain ⟨⟨o1, o2⟩, ⟨o3, o4⟩, ⟨o5, o6⟩, ⟨o7, o8⟩, ⟨o9, o10⟩, ⟨o11, o12⟩, ⟨o13, o14⟩, ⟨o15, o16⟩, o17, o18⟩ := show ordN x from hx
 have hy : ordN (answO x a) := answ_ordN hx ⟨y5, y6⟩ ⟨by omega, y8⟩
 have hres : -99980001000000 ≤ resP x ∧ resP x ≤ 99980001000000 := resN hx
 have hres2 : -99980001000000 ≤ resP (answO x a) ∧ resP (answO x a) ≤ 99980001000000 := resN hy
 refine enter_in hm (vs := [.pointer (some ⟨pO, 0, none⟩), .string s0]) Tryz.func13 rfl Tryz.ntmps13 rfl ?_
 refine Zs (Zr ?_)
 refine Xa ?_
 refine Ze (Zt (Zs (Zs (Zr ?_))))
 refine Xm ?_
 refine Xv (v := Value.bool false) rfl (v_pnil (o := some ⟨pO, 0, none⟩) u27 rfl rfl) ?_
 refine Ze (Zt ?_)
 refine w_cond rfl (fun hc12 => ?_) (fun hc12 => ?_)
 ·cases hc12
 skip
 refine w_skip (Zt (Zs (Zr ?_)))
 refine Xm ?_
 refine x_callv (v := Value.tuple #[.agg a.cells.toArray, .int .i64 0]) rfl rfl rfl Tryz.func54 Zk rfl (fun w1 hw1 => by have h := g_read1 s0 w1 hs hbig (hL.later (hw1.base (by first | exact hws | exact .tail _ hws | exact .tail _ (.tail _ hws) | exact .tail _ (.tail _ (.tail _ hws))))); rw [hrd] at h; exact h) ?_
 refine Xm ?_
 refine Xv rfl (v_extract rfl rfl) ?_
 refine Xv rfl (v_extract rfl rfl) ?_
 refine x_alloc rfl rfl rfl zr25 ?_
 intro p5
 refine x_store0 [] rfl rfl rfl rfl sz25 rfl rfl ?_
 refine Xa ?_
 refine Ze (Zt (Zs (Zs (Zr ?_))))
 refine Xm ?_
 refine Xb rfl (v_neq rfl rfl) fun b19 hb19 => ?_
 refine Ze (Zt ?_)
 refine w_cond rfl (fun hc19 => ?_) (fun hc19 => ?_)
 ·exfalso
  rw [hb19] at hc19
  revert hc19; simp
 simp only [hb19, Qz, ne_eq] at hc19
 refine w_skip (Zt (Zs ?_))
 refine rg_inv ((p5, Obj.cells a.cells.toArray 25) :: (pO, Obj.cells (orC pF s.tol mO).toArray 38) :: (mO, Obj.map esO ckO) :: (mF, Obj.map esF ckF) :: (pF, Obj.cells (fnC mF money).toArray 125) :: (FB 130 ms ++ L)) 13 (.flt 0 (.flt 1 (.flt 2 (.flt 3 (.flt 4 (.flt 5 (.flt 6 (.flt 7 (.flt 8 (.flt 9 (.gr 10 (.gr 11 (.flt 12 .done) .nil) .nil))))))))))) (.refl _) Zk Zk ?_
 refine j_val rfl rfl (v_move rfl) ?_
 refine j_val rfl rfl (v_nilCheck rfl) ?_
 refine j_val rfl rfl (v_fieldAddr (off' := 2) u38 rfl sz36 (by decide) rfl rfl) ?_
 refine j_val rfl rfl (v_load u36 rfl rfl (at_ownL (vs := orC pF s.tol mO) (.tail _ (.head _)) rfl)) ?_
 refine j_val rfl rfl (v_fieldAddr (off' := 0) u25 rfl sz3 (by decide) rfl rfl) ?_
 refine j_val rfl rfl (v_load u3 rfl rfl (at_ownL (vs := a.cells) (.head _) rfl)) ?_
 refine j_val (v := Value.tuple #[orV x first, .bool true]) rfl rfl (v_lookup2H u36 (Maps.int_keyed u3) zr100 rfl rfl (Maps.keyOf_int_mk u3 (wf_in hid)) (map_own (.tail _ (.tail _ (.head _)))) hO.f (by rw [fOL_at, hl]; rfl) (by rw [fOL_at, hl]; rfl)) ?_
 refine j_val rfl rfl (v_move rfl) ?_
 refine j_val rfl rfl (v_extract rfl rfl) ?_
 refine j_bool rfl rfl (v_extract rfl rfl) fun b30 hb30 => ?_
 refine j_gr ?_ j_nil
 refine x_alloc rfl rfl rfl zr100 ?_
 intro p7
 refine Ze ?_
 refine j_end (List.sublist_cons_self _ _) ?_
 refine j_gr ?_ j_nil
 refine x_store0 [] rfl rfl rfl rfl sz100 rfl rfl ?_
 refine Ze ?_
 refine j_end (List.sublist_cons_self _ _) ?_
 refine j_val rfl rfl (v_assign rfl) ?_
 refine j_done ?_
 refine Ze (Zt (Zs (w_block (Zs (Zr ?_)))))
 refine Xm ?_
 refine Xb rfl (v_not rfl) fun b33 hb33 => ?_
 refine Xa ?_
 refine Ze (Zt ?_)
 refine w_cond rfl (fun hc31 => ?_) (fun hc31 => ?_)
 ·exfalso
  rw [hb33, hb30] at hc31
  revert hc31; simp
 simp only [hb33, hb30, Qz, ne_eq] at hc31
 refine Zs (Zr ?_)
 refine Xv rfl (v_fieldAddr (off' := 0) u100 rfl sz25 (by decide) rfl rfl) ?_
 refine Xv rfl (v_fieldAddr (off' := 8) u25 rfl sz3 (by decide) rfl rfl) ?_
 refine Xv rfl (v_load u3 rfl rfl (at_ownL (vs := orC10 x first) (.head _) rfl)) ?_
 refine Xb rfl (v_neq rfl rfl) fun b38 hb38 => ?_
 refine Xm ?_
 refine Xi rfl rfl rfl (fun hg0 => by subst hg0; (try simp only [Qy]); exact v_fieldAddr (off' := 0) u100 rfl sz25 (by decide) rfl rfl) ?_
 refine Xi rfl rfl rfl (fun hg0 => by subst hg0; (try simp only [Qy]); exact v_fieldAddr (off' := 7) u25 rfl sz3 (by decide) rfl rfl) ?_
 refine Xi rfl rfl rfl (fun hg0 => by subst hg0; (try simp only [Qy]); exact v_load u3 rfl rfl (at_ownL (vs := orC10 x first) (.head _) rfl)) ?_
 refine Xj rfl rfl rfl (fun hg0 => by subst hg0; (try simp only [Qy]); exact v_neq rfl rfl) fun b43 hb43 => ?_
 refine Xb rfl (v_or rfl rfl) fun b44 hb44 => ?_
 refine Xa ?_
 refine Ze (Zt ?_)
 refine w_cond rfl (fun hc34 => ?_) (fun hc34 => ?_)
 ·simp only [hb44, hb43, hb38, Qz, ne_eq] at hc34
  refine Zs (Zr ?_)
  refine Xa ?_
  refine Ze (Zt (w_ret (b_ret (t_ret ?_))))
  refine ret1 rfl rfl (fun w' hm' => ?_)
  rw [show (answerG s a 0) = (50, s) from by unfold answerG; rw [if_neg (by decide), hl]; dsimp only; rw [← hfs, if_pos (by omega)]]
  exact ⟨rfl, (esO, ckO, ms), ⟨hO, hfs, rfl, rfl⟩, hm'.less ((List.sublist_cons_self _ _).trans (List.sublist_cons_self _ _)) (fun _ h => h)⟩
 simp only [hb44, hb43, hb38, Qz, ne_eq] at hc34
 refine Zs (Zr ?_)
 refine Xv rfl (v_fieldAddr (off' := 0) u100 rfl sz25 (by decide) rfl rfl) ?_
 refine Xv rfl (v_fieldAddr (off' := 1) u25 rfl sz3 (by decide) rfl rfl) ?_
 refine Xv rfl (v_load u3 rfl rfl (at_ownL (vs := orC10 x first) (.head _) rfl)) ?_
 refine Xv rfl (v_fieldAddr (off' := 1) u25 rfl sz3 (by decide) rfl rfl) ?_
 refine Xv rfl (v_load u3 rfl rfl (at_ownL (vs := a.cells) (.tail _ (.head _)) rfl)) ?_
 refine Xb rfl (v_neq rfl rfl) fun b51 hb51 => ?_
 refine Xm ?_
 refine Xi rfl rfl rfl (fun hg0 => by subst hg0; (try simp only [Qy]); exact v_fieldAddr (off' := 0) u100 rfl sz25 (by decide) rfl rfl) ?_
 refine Xi rfl rfl rfl (fun hg0 => by subst hg0; (try simp only [Qy]); exact v_fieldAddr (off' := 2) u25 rfl sz23 (by decide) rfl rfl) ?_
 refine x_if [] rfl rfl rfl rfl rfl (v := Value.agg #[.int .i64 x.src, .int .i64 x.num]) (fun hg => by obtain ⟨hg0, _⟩ := hg; subst hg0; (try simp only [Qy]); exact v_loadN (vs := [Value.int .i64 x.src, .int .i64 x.num]) u23 rfl sz23 rfl (fun j hj => at_ownL (vs := orC10 x first) (.head _) (by match j, hj with | 0, _ => rfl | 1, _ => rfl))) ?_
 refine Xi rfl rfl rfl (fun hg0 => by subst hg0; (try simp only [Qy]); exact v_fieldAddr (off' := 2) u25 rfl sz23 (by decide) rfl rfl) ?_
 refine x_if [] rfl rfl rfl rfl rfl (v := Value.agg #[.int .i64 a.src, .int .i64 a.num]) (fun hg => by obtain ⟨hg0, _⟩ := hg; subst hg0; (try simp only [Qy]); exact v_loadN (vs := [Value.int .i64 a.src, .int .i64 a.num]) u23 rfl sz23 rfl (fun j hj => at_ownL (vs := a.cells) (.tail _ (.head _)) (by match j, hj with | 0, _ => rfl | 1, _ => rfl))) ?_
 refine x_ifb [] rfl rfl rfl rfl rfl (c := !decide (x.src = a.src ∧ x.num = a.num)) (fun hg => by obtain ⟨hg0, _⟩ := hg; subst hg0; (try simp only [Qy]); exact v_neA Zk rfl rfl (fun w1 => eqRec w1 x.src x.num a.src a.num)) fun b58 hb58 => ?_
 refine Xb rfl (v_or rfl rfl) fun b59 hb59 => ?_
 refine Xm ?_
 refine Xi rfl rfl rfl (fun hg0 => by subst hg0; (try simp only [Qy]); exact v_fieldAddr (off' := 4) u25 rfl sz3 (by decide) rfl rfl) ?_
 refine Xi rfl rfl rfl (fun hg0 => by subst hg0; (try simp only [Qy]); exact v_load u3 rfl rfl (at_ownL (vs := a.cells) (.tail _ (.head _)) rfl)) ?_
 refine Xi rfl rfl rfl (fun hg0 => by subst hg0; (try simp only [Qy]); exact v_fieldAddr (off' := 0) u100 rfl sz25 (by decide) rfl rfl) ?_
 refine Xi rfl rfl rfl (fun hg0 => by subst hg0; (try simp only [Qy]); exact v_fieldAddr (off' := 4) u25 rfl sz3 (by decide) rfl rfl) ?_
 refine Xi rfl rfl rfl (fun hg0 => by subst hg0; (try simp only [Qy]); exact v_load u3 rfl rfl (at_ownL (vs := orC10 x first) (.head _) rfl)) ?_
 refine Xj rfl rfl rfl (fun hg0 => by subst hg0; (try simp only [Qy]); exact v_gtr rfl rfl) fun b66 hb66 => ?_
 refine Xb rfl (v_or rfl rfl) fun b67 hb67 => ?_
 refine Xa ?_
 refine Ze (Zt ?_)
 refine w_cond rfl (fun hc45 => ?_) (fun hc45 => ?_)
 ·simp only [hb67, hb66, hb59, hb51, Qz, ne_eq] at hc45
  refine Zs (Zr ?_)
  refine Xa ?_
  refine Ze (Zt (w_ret (b_ret (t_ret ?_))))
  have hq : (x.fund ≠ a.fund ∨ ¬(x.src = a.src ∧ x.num = a.num)) ∨ a.copies > x.copies := by
   rcases hc45 with (h | h) | h
   ·exact .inl (.inl h)
   ·exact .inl (.inr (fun q => by rw [hb58] at h; simp [q.1, q.2] at h))
   exact .inr (by omega)
  refine ret1 rfl rfl (fun w' hm' => ?_)
  rw [show (answerG s a 0) = (1, s) from by unfold answerG; rw [if_neg (by decide), hl]; dsimp only; rw [← hfs, if_neg (by omega), if_pos hq]]
  exact ⟨rfl, (esO, ckO, ms), ⟨hO, hfs, rfl, rfl⟩, hm'.less ((List.sublist_cons_self _ _).trans (List.sublist_cons_self _ _)) (fun _ h => h)⟩
 simp only [hb67, hb66, hb59, hb51, Qz, ne_eq] at hc45
 refine Zs (Zr ?_)
 refine Xm ?_
 refine Xv rfl (v_fieldAddr (off' := 5) u25 rfl sz3 (by decide) rfl rfl) ?_
 refine Xv rfl (v_load u3 rfl rfl (at_ownL (vs := a.cells) (.tail _ (.head _)) rfl)) ?_
 refine Xv rfl (v_fieldAddr (off' := 9) u100 rfl sz3 (by decide) rfl rfl) ?_
 refine Xv rfl (v_load u3 rfl rfl (at_ownL (vs := orC10 x first) (.head _) rfl)) ?_
 refine x_callb rfl rfl rfl Tryz.func56 Zk rfl (fun w1 hw1 => c_near (tol := s.tol) a.price first w1 (at_ownL (vs := orC pF s.tol mO) (.tail _ (.tail _ (.head _))) rfl w1 hw1) htol ⟨y5, y6⟩ ⟨hfi1, hfi2⟩) fun b74 hb74 => ?_
 refine Xb rfl (v_not rfl) fun b75 hb75 => ?_
 refine Xa ?_
 refine Ze (Zt ?_)
 refine w_cond rfl (fun hc68 => ?_) (fun hc68 => ?_)
 ·simp only [hb75, hb74, Qz, ne_eq] at hc68
  refine Zs (Zr ?_)
  refine Xa ?_
  refine Ze (Zt (w_ret (b_ret (t_ret ?_))))
  have hq : ¬((x.fund ≠ a.fund ∨ ¬(x.src = a.src ∧ x.num = a.num)) ∨ a.copies > x.copies) := by
   rintro ((h | h) | h)
   ·exact h hc45.1.1
   ·have h2 := hc45.1.2; rw [hb58] at h2; exact h (by simpa using h2)
   have h2 := hc45.2; omega
  refine ret1 rfl rfl (fun w' hm' => ?_)
  rw [show (answerG s a 0) = (61, s) from by unfold answerG; rw [if_neg (by decide), hl]; dsimp only; rw [← hfs, if_neg (by omega), if_neg hq, if_pos (by simpa using hc68)]]
  exact ⟨rfl, (esO, ckO, ms), ⟨hO, hfs, rfl, rfl⟩, hm'.less ((List.sublist_cons_self _ _).trans (List.sublist_cons_self _ _)) (fun _ h => h)⟩
 simp only [hb75, hb74, Qz, ne_eq] at hc68
 refine w_skip (b_norm (Zt (Zs (Zr ?_))))
 refine Xv rfl (v_load_blk (e := 100) (fz := (0, 0)) (cs := (orC10 x first).toArray) u100 rfl rfl (.head _) sz100) ?_
 refine x_callv rfl rfl rfl Tryz.func57 Zk rfl (fun w1 hw1 => g_res x first w1 hx) ?_
 refine Xa ?_
 refine Ze (Zt (Zs ?_))
 refine rg_inv ([(p5, Obj.cells a.cells.toArray 25)]) 10 (.flt 0 (.flt 1 (.flt 2 (.flt 3 (.flt 4 (.flt 5 (.gr 6 (.flt 7 (.flt 8 (.gr 9 .done .nil))) .nil))))))) (.cons _ (List.Sublist.cons_cons _ (List.nil_sublist _))) Zk Zk ?_
 refine j_val rfl rfl (v_fieldAddr (off' := 4) u25 rfl sz3 (by decide) rfl rfl) ?_
 refine j_val rfl rfl (v_load u3 rfl rfl (at_ownL (vs := a.cells) (.head _) rfl)) ?_
 refine j_val rfl rfl (v_fieldAddr (off' := 5) u25 rfl sz3 (by decide) rfl rfl) ?_
 refine j_val rfl rfl (v_load u3 rfl rfl (at_ownL (vs := a.cells) (.head _) rfl)) ?_
 refine j_val rfl rfl (v_fieldAddr (off' := 0) u100 rfl sz25 (by decide) rfl rfl) ?_
 refine j_val rfl rfl (v_fieldAddr (off' := 6) u25 rfl sz3 (by decide) rfl rfl) ?_
 refine j_gr ?_ j_nil
 refine x_store (cs := orC10 x first) (off := 6) (e := 100) (l2 := (p5, Obj.cells a.cells.toArray 25) :: (pO, Obj.cells (orC pF s.tol mO).toArray 38) :: (mO, Obj.map esO ckO) :: (mF, Obj.map esF ckF) :: (pF, Obj.cells (fnC mF money).toArray 125) :: (FB 130 ms ++ L)) [] rfl rfl rfl rfl sz3 rfl (by show 7 ≤ 10; decide) ?_
 refine Ze ?_
 refine j_end (.cons _ (List.Sublist.cons_cons _ (List.nil_sublist _))) ?_
 refine j_val rfl rfl (v_fieldAddr (off' := 0) u100 rfl sz25 (by decide) rfl rfl) ?_
 refine j_val rfl rfl (v_fieldAddr (off' := 5) u25 rfl sz3 (by decide) rfl rfl) ?_
 refine j_gr ?_ j_nil
 refine x_store (cs := orC10 { x with prom := a.copies } first) (off := 5) (e := 100) (l2 := (p5, Obj.cells a.cells.toArray 25) :: (pO, Obj.cells (orC pF s.tol mO).toArray 38) :: (mO, Obj.map esO ckO) :: (mF, Obj.map esF ckF) :: (pF, Obj.cells (fnC mF money).toArray 125) :: (FB 130 ms ++ L)) [] rfl rfl rfl rfl sz3 rfl (by show 6 ≤ 10; decide) ?_
 refine Ze ?_
 refine j_end (.cons _ (List.Sublist.cons_cons _ (List.nil_sublist _))) ?_
 refine j_done ?_
 refine Ze (Zt ?_)
 refine w_seq_cut (σ := Int × List FM) (fun r21 => r21.1 = (moveG (fsM ms) x.fund (resP x) (resP (answO x a))).1 ∧ fsM r21.2 = (moveG (fsM ms) x.fund (resP x) (resP (answO x a))).2 ∧ fMM r21.2 = fMM ms) (fun r21 => [(0, Value.pointer (some ⟨pO, 0, none⟩)), (6, Value.int .i64 r21.1), (7, Value.pointer (some ⟨p7, 0, none⟩))]) (fun r21 => (p7, Obj.cells (orC10 (answO x a) first).toArray 100) :: (p5, Obj.cells a.cells.toArray 25) :: (pO, Obj.cells (orC pF s.tol mO).toArray 38) :: (mO, Obj.map esO ckO) :: (mF, Obj.map esF ckF) :: (pF, Obj.cells (fnC mF money).toArray 125) :: (FB 130 r21.2 ++ L)) (fun r21 => ro) ?_ ?_
 ·refine w_seq ?_
  refine w_state _ ((p7, Obj.cells (orC10 (answO x a) first).toArray 100) :: (p5, Obj.cells a.cells.toArray 25) :: (pO, Obj.cells (orC pF s.tol mO).toArray 38) :: (mO, Obj.map esO ckO) :: (mF, Obj.map esF ckF) :: (pF, Obj.cells (fnC mF money).toArray 125) :: (FB 130 ms ++ L)) _ ?_
  refine Zr ?_
  refine Xv rfl (v_load_blk (e := 100) (fz := (0, 0)) (cs := (orC10 (answO x a) first).toArray) u100 rfl rfl (.head _) sz100) ?_
  refine x_callv rfl rfl rfl Tryz.func57 Zk rfl (fun w1 hw1 => g_res (answO x a) first w1 hy) ?_
  refine Xa ?_
  refine Ze (Zt (Zs (Zr ?_)))
  refine Xm ?_
  refine Xm ?_
  refine Xb rfl (v_gtr rfl rfl) fun b90 hb90 => ?_
  refine Ze (Zt ?_)
  refine w_cond rfl (fun hc90 => ?_) (fun hc90 => ?_)
  ·simp only [hb90, Qz, ne_eq] at hc90
   refine rg_draw 10 [(true, 0), (true, 1), (true, 2), (true, 3), (true, 4), (true, 5), (true, 6), (true, 7), (true, 8), (true, 9)] Zk Zk ?_
   refine Xm ?_
   refine Xv rfl (v_nilCheck rfl) ?_
   refine Xv rfl (v_fieldAddr (off' := 0) u38 rfl sz35 (by decide) rfl rfl) ?_
   refine Xv rfl (v_load u35 rfl rfl (at_ownL (vs := orC pF s.tol mO) (.tail _ (.tail _ (.head _))) rfl)) ?_
   refine Xv rfl (v_fieldAddr (off' := 0) u100 rfl sz25 (by decide) rfl rfl) ?_
   refine Xv rfl (v_fieldAddr (off' := 1) u25 rfl sz3 (by decide) rfl rfl) ?_
   refine Xv rfl (v_load u3 rfl rfl (at_ownL (vs := orC10 (answO x a) first) (.head _) rfl)) ?_
   refine Xm ?_
   refine Xm ?_
   refine Xv rfl (v_subi rfl rfl rfl Zo) ?_
   refine x_turnf (τ := List FM) (v := Value.int .i64 (postG encP (fsM ms) x.fund ((resP (answO x a)) - (resP x))).1) (fun q => fsM q = (postG encP (fsM ms) x.fund ((resP (answO x a)) - (resP x))).2 ∧ fMM q = fMM ms) (fun q => (p7, Obj.cells (orC10 (answO x a) first).toArray 100) :: (p5, Obj.cells a.cells.toArray 25) :: (pO, Obj.cells (orC pF s.tol mO).toArray 38) :: (mO, Obj.map esO ckO) :: (mF, Obj.map esF ckF) :: (pF, Obj.cells (fnC mF money).toArray 125) :: (FB 130 q ++ L)) rfl rfl Tryz.func52 Zk rfl (fun w1 hw1 => g_enc (l1 := [(p7, Obj.cells (orC10 (answO x a) first).toArray 100), (p5, Obj.cells a.cells.toArray 25), (pO, Obj.cells (orC pF s.tol mO).toArray 38), (mO, Obj.map esO ckO), (mF, Obj.map esF ckF), (pF, Obj.cells (fnC mF money).toArray 125)]) (ms := ms) hw1 hF Zh Zh hfk (x.fund) (by unfold in64; omega) ((resP (answO x a)) - (resP x))) fun m101 hm101 => ?_
   refine Xa ?_
   refine Ze ?_
   exact c_norm ((postG encP (fsM ms) x.fund ((resP (answO x a)) - (resP x))).1, m101) (by unfold moveG; rw [if_pos (by omega)]; exact ⟨rfl, hm101⟩) Zu (fun _ h => h)
  simp only [hb90, Qz, ne_eq] at hc90
  refine rg_draw 10 [(true, 0), (true, 1), (true, 2), (true, 3), (true, 4), (true, 5), (true, 6), (true, 7), (true, 8), (true, 9)] Zk Zk ?_
  refine Xm ?_
  refine Xv rfl (v_nilCheck rfl) ?_
  refine Xv rfl (v_fieldAddr (off' := 0) u38 rfl sz35 (by decide) rfl rfl) ?_
  refine Xv rfl (v_load u35 rfl rfl (at_ownL (vs := orC pF s.tol mO) (.tail _ (.tail _ (.head _))) rfl)) ?_
  refine Xv rfl (v_fieldAddr (off' := 0) u100 rfl sz25 (by decide) rfl rfl) ?_
  refine Xv rfl (v_fieldAddr (off' := 1) u25 rfl sz3 (by decide) rfl rfl) ?_
  refine Xv rfl (v_load u3 rfl rfl (at_ownL (vs := orC10 (answO x a) first) (.head _) rfl)) ?_
  refine Xm ?_
  refine Xm ?_
  refine Xv rfl (v_subi rfl rfl rfl Zo) ?_
  refine x_turnf (τ := List FM) (v := Value.int .i64 (postG relP (fsM ms) x.fund ((resP x) - (resP (answO x a)))).1) (fun q => fsM q = (postG relP (fsM ms) x.fund ((resP x) - (resP (answO x a)))).2 ∧ fMM q = fMM ms) (fun q => (p7, Obj.cells (orC10 (answO x a) first).toArray 100) :: (p5, Obj.cells a.cells.toArray 25) :: (pO, Obj.cells (orC pF s.tol mO).toArray 38) :: (mO, Obj.map esO ckO) :: (mF, Obj.map esF ckF) :: (pF, Obj.cells (fnC mF money).toArray 125) :: (FB 130 q ++ L)) rfl rfl Tryz.func58 Zk rfl (fun w1 hw1 => g_rel (l1 := [(p7, Obj.cells (orC10 (answO x a) first).toArray 100), (p5, Obj.cells a.cells.toArray 25), (pO, Obj.cells (orC pF s.tol mO).toArray 38), (mO, Obj.map esO ckO), (mF, Obj.map esF ckF), (pF, Obj.cells (fnC mF money).toArray 125)]) (ms := ms) hw1 hF Zh Zh hfk (x.fund) (by unfold in64; omega) ((resP x) - (resP (answO x a)))) fun m112 hm112 => ?_
  refine Xa ?_
  refine Ze ?_
  exact c_norm ((postG relP (fsM ms) x.fund ((resP x) - (resP (answO x a)))).1, m112) (by unfold moveG; rw [if_neg (by omega)]; exact ⟨rfl, hm112⟩) Zu (fun _ h => h)
 rintro ⟨c21, m21⟩ ⟨hq1, hq2, hq3⟩
 refine w_state ([(0, Value.pointer (some ⟨pO, 0, none⟩)), (6, Value.int .i64 c21), (7, Value.pointer (some ⟨p7, 0, none⟩))]) ((p7, Obj.cells (orC10 (answO x a) first).toArray 100) :: (p5, Obj.cells a.cells.toArray 25) :: (pO, Obj.cells (orC pF s.tol mO).toArray 38) :: (mO, Obj.map esO ckO) :: (mF, Obj.map esF ckF) :: (pF, Obj.cells (fnC mF money).toArray 125) :: (FB 130 m21 ++ L)) (ro) ?_
 dsimp only at hq1 hq2 hq3
 refine Zs (Zs (Zr ?_))
 refine Xm ?_
 refine Xb rfl (v_eql rfl rfl) fun b114 hb114 => ?_
 refine Ze (Zt ?_)
 refine w_cond rfl (fun hc114 => ?_) (fun hc114 => ?_)
 ·simp only [hb114, Qz, ne_eq] at hc114
  refine Zr ?_
  refine Xm ?_
  refine Xv rfl (v_load_blk (e := 100) (fz := (0, 0)) (cs := (orC10 (answO x a) first).toArray) u100 rfl rfl (.head _) sz100) ?_
  refine x_turnf (τ := Array MapEntry × Nat) (v := Value.tuple #[]) (fun q => MapC Tryz.prog 3 q.1 q.2 (fOL (setL s.L ((answO x a), first)))) (fun q => [(p7, Obj.cells (orC10 (answO x a) first).toArray 100), (p5, Obj.cells a.cells.toArray 25)] ++ (pO, Obj.cells (orC pF s.tol mO).toArray 38) :: (mO, Obj.map q.1 q.2) :: (mF, Obj.map esF ckF) :: (pF, Obj.cells (fnC mF money).toArray 125) :: (FB 130 m21 ++ L)) rfl rfl Tryz.func53 Zk rfl (fun w1 hw1 => (g_put (l1 := [(p7, Obj.cells (orC10 (answO x a) first).toArray 100), (p5, Obj.cells a.cells.toArray 25)]) (answO x a) first hw1 hO (show in64 x.id by unfold in64; omega)).mono fun e w2 ⟨h1, q, h2, h3⟩ => ⟨h1, q, by rw [← (fOL_set (y := ((answO x a), first)) hhere)]; exact h2, h3⟩) fun q117 hq117 => ?_
  refine Ze (Zt (Zs (Zr ?_)))
  refine Xm ?_
  refine Xa ?_
  refine Ze (Zt (w_ret ?_))
  have hq : ¬((x.fund ≠ a.fund ∨ ¬(x.src = a.src ∧ x.num = a.num)) ∨ a.copies > x.copies) := by
   rintro ((h | h) | h)
   ·exact h hc45.1.1
   ·have h2 := hc45.1.2; rw [hb58] at h2; exact h (by simpa using h2)
   have h2 := hc45.2; omega
  refine ret1 rfl rfl (fun w' hm' => ?_)
  have hp0 : (moveG (fsM ms) x.fund (resP x) (resP (answO x a))).1 = 0 := hq1.symm.trans hc114
  rw [show (answerG s a 0) = (0, ⟨(moveG (fsM ms) x.fund (resP x) (resP (answO x a))).2, s.tol, setL s.L ((answO x a), first)⟩) from by unfold answerG; rw [if_neg (by decide), hl]; dsimp only; rw [← hfs, if_neg (by omega), if_neg hq, if_neg (by simpa using hc68), if_neg (by rw [hp0]; decide)]]
  exact ⟨by rw [hc114], (q117.1, q117.2, m21), ⟨hq117, hq2, hq3, rfl⟩, hm'.less ((List.sublist_cons_self _ _).trans (List.sublist_cons_self _ _)) (fun _ h => h)⟩
 simp only [hb114, Qz, ne_eq] at hc114
 refine w_skip (Zt (Zs (Zr ?_)))
 refine Xm ?_
 refine Xa ?_
 refine Ze (Zt (w_ret ?_))
 have hq : ¬((x.fund ≠ a.fund ∨ ¬(x.src = a.src ∧ x.num = a.num)) ∨ a.copies > x.copies) := by
  rintro ((h | h) | h)
  ·exact h hc45.1.1
  ·have h2 := hc45.1.2; rw [hb58] at h2; exact h (by simpa using h2)
  have h2 := hc45.2; omega
 refine ret1 rfl rfl (fun w' hm' => ?_)
 have hp0 : (moveG (fsM ms) x.fund (resP x) (resP (answO x a))).1 ≠ 0 := by rw [← hq1]; simpa using hc114
 rw [show (answerG s a 0) = ((moveG (fsM ms) x.fund (resP x) (resP (answO x a))).1, s) from by unfold answerG; rw [if_neg (by decide), hl]; dsimp only; rw [← hfs, if_neg (by omega), if_neg hq, if_neg (by simpa using hc68), if_pos hp0]]
 exact ⟨by rw [hq1], (esO, ckO, m21), ⟨hO, hq2.trans ((moveG_f hp0).trans hfs), hq3, rfl⟩, hm'.less ((List.sublist_cons_self _ _).trans (List.sublist_cons_self _ _)) (fun _ h => h)⟩
theorem g_Answer {w : World} {L : List (Nat × Obj)} {ro : List Snap} {mF pF pO mO ckF ckO : Nat} {esF esO : Array MapEntry} {money : Int} {ms : List FM} {s : SG} (hm : Mem w ((pO, Obj.cells (orC pF s.tol mO).toArray 38) :: (mO, Obj.map esO ckO) :: (mF, Obj.map esF ckF) :: (pF, Obj.cells (fnC mF money).toArray 125) :: (FB 130 ms ++ L)) ro) (hF : MapF Tryz.prog 3 esF (fMM ms)) (hO : MapC Tryz.prog 3 esO ckO (fOL s.L)) (hfs : fsM ms = s.fs) (hok : SGok s) {ws : World} (hws : (ws, fun _ => True) ∈ ro) (hL : LD ws) (s0 : ByteArray) (hs : s0.size ≤ 200000000) (hbig : bigO (parR s0).1) : Calls Tryz.prog 13 #[.pointer (some ⟨pO, 0, none⟩), .string s0] w fun e w' => e = .returned (.int .i64 (answerG s (rdT s0).1 (rdT s0).2).1) ∧ ∃ q : Array MapEntry × Nat × List FM, (MapC Tryz.prog 3 q.1 q.2.1 (fOL (answerG s (rdT s0).1 (rdT s0).2).2.L) ∧ fsM q.2.2 = (answerG s (rdT s0).1 (rdT s0).2).2.fs ∧ fMM q.2.2 = fMM ms ∧ (answerG s (rdT s0).1 (rdT s0).2).2.tol = s.tol) ∧ Mem w' ((pO, Obj.cells (orC pF s.tol mO).toArray 38) :: (mO, Obj.map q.1 q.2.1) :: (mF, Obj.map esF ckF) :: (pF, Obj.cells (fnC mF money).toArray 125) :: (FB 130 q.2.2 ++ L)) ro := by
 obtain ⟨a, c, hrd⟩ : ∃ a c, rdT s0 = (a, c) := ⟨_, _, rfl⟩
 rw [hrd]
 by_cases hc : c = 0
 ·subst hc
  cases hl : lkL s.L a.id with
  | none => exact g_AnswerM hm hF hO hfs hok hws hL s0 hs hbig hrd hl
  | some z => obtain ⟨x, first⟩ := z; exact g_AnswerH hm hF hO hfs hok hws hL s0 hs hbig hrd hl
 exact g_AnswerE hm hF hO hfs hok hws hL s0 hs hbig hrd hc
open Go.RowKit Go.PK
def wantO (a b c : Int) : PK.Ord := ⟨1 + a % 6, 1 + b % 4, 1, a % 3, c % 6, 100 * (b % 13), 0, 2, 5⟩
open Go.RowKit Go.PK
open Go.RowKit Go.PK
theorem g_checkU {pO : Nat} {tol : Int} (ln : PK.Ord) (o : Option EN) (w : World) (h1 : w.cell? ⟨pO, 1, none⟩ = some (.int .i64 tol)) (ht : 0 ≤ tol ∧ tol ≤ 1000000) (hl : 0 ≤ ln.price ∧ ln.price ≤ 999999999) (ho : ∀ e, o = some e → ordN e.1) : Calls Tryz.prog 62 #[.pointer (some ⟨pO, 0, none⟩), .agg ln.cells.toArray, .agg (orC10 (ozO o).1 (ozO o).2).toArray, .bool o.isSome] w fun e w' => e = .returned (.int .i64 (checkP tol ln o)) ∧ Later w w' := by
 cases o with
 | none => exact g_checkM (pO := pO) (tol := tol) ln zeroO 0 w
 | some z => obtain ⟨x, first⟩ := z; exact g_check ln x first w h1 ht hl (ho _ rfl)
set_option maxHeartbeats 4000000 in
theorem g_PayO {w : World} {L : List (Nat × Obj)} {ro : List Snap} {mF pF pO mO ckF ckO : Nat} {esF esO : Array MapEntry} {money : Int} {ms : List FM} {s : SG} (hm : Mem w ((pO, Obj.cells (orC pF s.tol mO).toArray 38) :: (mO, Obj.map esO ckO) :: (mF, Obj.map esF ckF) :: (pF, Obj.cells (fnC mF money).toArray 125) :: (FB 130 ms ++ L)) ro) (hF : MapF Tryz.prog 3 esF (fMM ms)) (hO : MapC Tryz.prog 3 esO ckO (fOL s.L)) (hfs : fsM ms = s.fs) (hok : SGok s) {ws : World} (hws : (ws, fun _ => True) ∈ ro) (hL : LD ws) (s0 : ByteArray) (hs : s0.size ≤ 200000000) (hbig : bigO (parR s0).1) {ls : List PK.Ord} (hrd : rdTI s0 = (ls, 0)) :
  Calls Tryz.prog 15 #[.pointer (some ⟨pO, 0, none⟩), .string s0] w fun e w' => e = .returned (.int .i64 (invoiceG s ls 0).1) ∧ ∃ q : Nat × Array MapEntry × Nat × List FM, (MapC Tryz.prog 3 q.2.1 q.2.2.1 (fOL (invoiceG s ls 0).2.L) ∧ fsM q.2.2.2 = (invoiceG s ls 0).2.fs ∧ fMM q.2.2.2 = fMM ms ∧ (invoiceG s ls 0).2.tol = s.tol) ∧ Mem w' ((pO, Obj.cells (orC pF s.tol q.1).toArray 38) :: (q.1, Obj.map q.2.1 q.2.2.1) :: (mF, Obj.map esF ckF) :: (pF, Obj.cells (fnC mF money).toArray 125) :: (FB 130 q.2.2.2 ++ L)) ro := by
 have htol := hok.tol
 have hfk : ∀ f ∈ fsM ms, fundOK f.s := by rw [hfs]; exact hok.fs
 have hlns := rdTI_ln (s := s0)
 rw [hrd] at hlns
 dsimp only at hlns
 have hl999 : ls.length ≤ 999 := by have := rdTI_len (s := s0); rw [hrd] at this; exact this
 refine enter_in hm (vs := [.pointer (some ⟨pO, 0, none⟩), .string s0]) Tryz.func15 rfl Tryz.ntmps15 rfl ?_
 refine Zs (Zr ?_)
 refine Xa ?_
 refine Ze (Zt (Zs (Zs (Zr ?_))))
 refine Xm ?_
 refine Xv (v := Value.bool false) rfl (v_pnil (o := some ⟨pO, 0, none⟩) u27 rfl rfl) ?_
 refine Ze (Zt ?_)
 refine w_cond rfl (fun hc20 => ?_) (fun hc20 => ?_)
 ·cases hc20
 skip
 refine w_skip (Zt (Zs (Zr ?_)))
 refine Xm ?_
 refine x_call (R := fun v wa wb => ∃ A1 c1, v = .tuple #[.slice A1 ls.length c1, .int .i64 0] ∧ sliceRd tyOrd (fun b => wa.heap.size ≤ b) wb (.slice A1 ls.length c1) ls) rfl rfl rfl Tryz.func59 Zk rfl (fun w1 hw1 => (g_read2 s0 w1 hs hbig (hL.later (hw1.base (by first | exact hws | exact .tail _ hws | exact .tail _ (.tail _ hws) | exact .tail _ (.tail _ (.tail _ hws)))))).mono fun e w2 ⟨q, h1, h2, h3⟩ => by rw [hrd] at h1 h3; obtain ⟨A1, c1, rfl, _⟩ := id h3; exact ⟨_, h1, h2, A1, c1, rfl, h3⟩) fun v23 wa23 wb23 hm23 hl23 hR23 => ?_
 obtain ⟨A23, c23, rfl, hr23⟩ := hR23
 refine Xm ?_
 refine Xv rfl (v_extract rfl rfl) ?_
 refine Xv rfl (v_extract rfl rfl) ?_
 refine Xa ?_
 refine Xa ?_
 refine Ze (Zt (Zs (Zs (Zr ?_))))
 refine Xm ?_
 refine Xb rfl (v_neq rfl rfl) fun b27 hb27 => ?_
 refine Ze (Zt ?_)
 refine w_cond rfl (fun hc27 => ?_) (fun hc27 => ?_)
 ·exfalso
  rw [hb27] at hc27
  revert hc27; simp
 simp only [hb27, Qz, ne_eq] at hc27
 refine w_skip (Zt (Zs (Zr ?_)))
 refine Xm ?_
 refine Xv rfl (v_nilCheck rfl) ?_
 refine Xv rfl (v_fieldAddr (off' := 2) u38 rfl sz36 (by decide) rfl rfl) ?_
 refine Xv rfl (v_load u36 rfl rfl (at_ownL (vs := orC pF s.tol mO) (.head _) rfl)) ?_
 refine x_turn_n (fun (b : Nat) v _ _ => v = .map (some b)) (fun b => (b, Obj.map esO ckO) :: ((pO, Obj.cells (orC pF s.tol mO).toArray 38) :: (mO, Obj.map esO ckO) :: (mF, Obj.map esF ckF) :: (pF, Obj.cells (fnC mF money).toArray 125) :: (FB 130 ms ++ L))) rfl rfl Tryz.func61 Zk rfl (fun w1 hw1 => (Tryz.maps_Clone_at mO esO ckO w1 (hw1.own_at _ (.tail _ (.head _)))).mono fun e w2 ⟨h1, h2⟩ => ⟨_, h1, w1.heap.size, rfl, by rw [h2]; exact hw1.new _⟩) ?_
 rintro _ pN wa33 wb33 hm33 rfl _
 refine Xa ?_
 refine Ze (Zt (Zs (Zr ?_)))
 refine x_makeMap rfl rfl rfl ?_
 intro p34
 refine Xa ?_
 refine Ze (Zt (Zs (Zs (Zr ?_))))
 refine Xm ?_
 refine Xv rfl (v_len_slice u52 rfl) ?_
 refine Xm ?_
 refine Ze (Zt (w_block ?_))
 refine w_loop (σ := Nat × Array MapEntry × Nat × (Int → Option Int) × Array MapEntry × Nat × List EN) (fun z => z.1 ≤ ls.length ∧ MapF Tryz.prog 3 z.2.1 (fFr z.2.2.2.1) ∧ MapC Tryz.prog 3 z.2.2.2.2.1 z.2.2.2.2.2.1 (fOL z.2.2.2.2.2.2) ∧ goI s.tol (fsM ms) s.L (fun _ => none) ls = goI s.tol (fsM ms) z.2.2.2.2.2.2 z.2.2.2.1 (ls.drop z.1) ∧ (∀ e ∈ z.2.2.2.2.2.2, enN e) ∧ (∀ id v, z.2.2.2.1 id = some v → 0 ≤ v ∧ v ≤ 1000000000000000 + (z.1 : Int) * 10000000000000)) (fun z => [(0, Value.pointer (some ⟨pO, 0, none⟩)), (5, Value.slice A23 ls.length c23), (7, Value.map (some pN)), (8, Value.map (some p34)), (35, Value.slice A23 ls.length c23), (36, Value.int .i64 (ls.length : Nat)), (37, Value.int .i64 (z.1 : Nat))]) (fun z => (p34, Obj.map z.2.1 z.2.2.1) :: (pN, Obj.map z.2.2.2.2.1 z.2.2.2.2.2.1) :: (pO, Obj.cells (orC pF s.tol mO).toArray 38) :: (mO, Obj.map esO ckO) :: (mF, Obj.map esF ckF) :: (pF, Obj.cells (fnC mF money).toArray 125) :: (FB 130 ms ++ L)) (fun z => (wb33, notOwn ((pN, Obj.map esO ckO) :: ((pO, Obj.cells (orC pF s.tol mO).toArray 38) :: (mO, Obj.map esO ckO) :: (mF, Obj.map esF ckF) :: (pF, Obj.cells (fnC mF money).toArray 125) :: (FB 130 ms ++ L)))) :: (wb23, notOwn ((pO, Obj.cells (orC pF s.tol mO).toArray 38) :: (mO, Obj.map esO ckO) :: (mF, Obj.map esF ckF) :: (pF, Obj.cells (fnC mF money).toArray 125) :: (FB 130 ms ++ L))) :: ro) (fun z => ls.length - z.1) ((0, #[], 0, (fun _ => none), esO, ckO, s.L)) (⟨Nat.zero_le _, by rw [fFr_none]; exact MapF.empty, hO, rfl, hok.L, fun id v h => by cases h⟩) (l_start Zu (fun _ h => h)) ?_
 rintro ⟨k, es8, ck8, fr, esN, ckN, M⟩ ⟨hk, hM8, hMN, hgo, hen, hfr⟩
 refine w_state ([(0, Value.pointer (some ⟨pO, 0, none⟩)), (5, Value.slice A23 ls.length c23), (7, Value.map (some pN)), (8, Value.map (some p34)), (35, Value.slice A23 ls.length c23), (36, Value.int .i64 (ls.length : Nat)), (37, Value.int .i64 (k : Nat))]) ((p34, Obj.map es8 ck8) :: (pN, Obj.map esN ckN) :: (pO, Obj.cells (orC pF s.tol mO).toArray 38) :: (mO, Obj.map esO ckO) :: (mF, Obj.map esF ckF) :: (pF, Obj.cells (fnC mF money).toArray 125) :: (FB 130 ms ++ L)) ((wb33, notOwn ((pN, Obj.map esO ckO) :: ((pO, Obj.cells (orC pF s.tol mO).toArray 38) :: (mO, Obj.map esO ckO) :: (mF, Obj.map esF ckF) :: (pF, Obj.cells (fnC mF money).toArray 125) :: (FB 130 ms ++ L)))) :: (wb23, notOwn ((pO, Obj.cells (orC pF s.tol mO).toArray 38) :: (mO, Obj.map esO ckO) :: (mF, Obj.map esF ckF) :: (pF, Obj.cells (fnC mF money).toArray 125) :: (FB 130 ms ++ L))) :: ro) ?_
 dsimp only at hk hM8 hMN hgo hen hfr
 refine Zs (Zr ?_)
 refine Xb rfl (v_lss rfl rfl) fun b38 hb38 => ?_
 refine Ze (Zt (Zs ?_))
 refine w_cond rfl (fun hc38 => ?_) (fun hc38 => ?_)
 ·simp only [hb38, Qz, ne_eq] at hc38
  have hkl : k < ls.length := by omega
  obtain ⟨lb, lo, hlA, hlD, hlc, hlok⟩ := ord_at hr23 (k := k) hkl
  obtain ⟨⟨⟨c1, c2⟩, p1⟩, p2, i1, i2⟩ := hlns ls[k] (List.getElem_mem hkl)
  have hlsk : ls[k] ∈ ls := List.getElem_mem hkl
  obtain ⟨ln, hln⟩ : ∃ q, ls[k] = q := ⟨_, rfl⟩
  rw [hln] at c1 c2 p1 p2 i1 i2 hlsk
  have hlid : in64 ln.id := by unfold in64; omega
  obtain ⟨o, ho⟩ : ∃ o, lkL M ln.id = o := ⟨_, rfl⟩
  have hoN : ∀ e, o = some e → ordN e.1 := fun e he => (hen e (lkL_mem (ho.trans he)).1).1
  have hstep : goI s.tol (fsM ms) s.L (fun _ => none) ls = _ := (hgo.trans (congrArg (fun q => goI s.tol (fsM ms) M fr q) ((drop_at hkl).trans (congrArg (fun q => q :: ls.drop (k + 1)) hln)))).trans (goI_cons ho)
  refine w_skip (Zt (Zs (w_block (Zs (Zr ?_)))))
  refine Xv rfl (v_indexAddr u52 sz25 (congrArg (fun A => some (Value.slice A ls.length c23)) hlA) rfl Zo rfl) ?_
  refine Xv rfl (v_loadN (vs := ln.cells) u25 rfl sz25 rfl (fun i hi => at_ro (.tail _ (.head _)) (fun q hq e => by have := hm23.lt hq; omega) (by rw [← hln]; exact hlc i hi))) ?_
  refine x_alloc rfl rfl rfl zr25 ?_
  intro p10
  refine x_store0 [] rfl rfl rfl rfl sz25 rfl rfl ?_
  refine Ze (Zt (Zs (Zr ?_)))
  refine Xm ?_
  refine Xv rfl (v_fieldAddr (off' := 0) u25 rfl sz3 (by decide) rfl rfl) ?_
  refine Xv rfl (v_load u3 rfl rfl (at_ownL (vs := ln.cells) (.head _) rfl)) ?_
  refine Xv (v := Value.tuple #[orV (ozO o).1 (ozO o).2, .bool o.isSome]) rfl (v_lookup2H u36 (Maps.int_keyed u3) zr100 rfl rfl (Maps.keyOf_int_mk u3 (wf_in hlid)) (map_own (.tail _ (.tail _ (.head _)))) hMN.f (by rw [fOL_at, ho]; cases o <;> rfl) (by rw [fOL_at, ho, Option.isSome_map])) ?_
  refine Xm ?_
  refine Xv rfl (v_extract rfl rfl) ?_
  refine Xb rfl (v_extract rfl rfl) fun b47 hb47 => ?_
  refine x_alloc rfl rfl rfl zr100 ?_
  intro p11
  refine x_store0 [] rfl rfl rfl rfl sz100 rfl rfl ?_
  refine Xa ?_
  refine Ze (Zt (Zs (Zs (Zr ?_))))
  refine Xm ?_
  refine Xv rfl (v_load_blk (e := 25) (fz := (0, 0)) (cs := ln.cells.toArray) u25 rfl rfl (.tail _ (.head _)) sz25) ?_
  refine Xv rfl (v_load_blk (e := 100) (fz := (0, 0)) (cs := (orC10 (ozO o).1 (ozO o).2).toArray) u100 rfl rfl (.head _) sz100) ?_
  refine Xm ?_
  obtain rfl : b47 = o.isSome := hb47
  refine x_callv (vs := [.pointer (some ⟨pO, 0, none⟩), .agg ln.cells.toArray, .agg (orC10 (ozO o).1 (ozO o).2).toArray, .bool o.isSome]) (v := Value.int .i64 (checkP s.tol ln o)) rfl rfl rfl Tryz.func62 Zk rfl (fun w1 hw1 => g_checkU ln o w1 (at_ownL (vs := orC pF s.tol mO) (.tail _ (.tail _ (.tail _ (.tail _ (.head _))))) rfl w1 hw1) htol ⟨p1, p2⟩ hoN) ?_
  refine Xa ?_
  refine Ze (Zt (Zs (Zr ?_)))
  refine Xm ?_
  refine Xb rfl (v_neq rfl rfl) fun b54 hb54 => ?_
  refine Ze (Zt ?_)
  refine w_cond rfl (fun hc54 => ?_) (fun hc54 => ?_)
  ·simp only [hb54, Qz, ne_eq] at hc54
   refine Zs (Zr ?_)
   refine Xm ?_
   refine Xa ?_
   refine Ze (Zt (w_ret (t_ret (b_ret (t_ret (t_ret (b_ret (t_ret ?_))))))))
   refine ret1 rfl rfl (fun w' hm' => ?_)
   have hG : (goI s.tol (fsM ms) s.L (fun _ => none) ls).1 = checkP s.tol ln o := by rw [hstep, if_pos hc54]
   rw [show (invoiceG s ls 0) = (checkP s.tol ln o, s) from by unfold invoiceG; rw [if_neg (by decide), ← hfs, if_pos (by rw [hG]; exact hc54), hG]]
   exact ⟨rfl, (mO, esO, ckO, ms), ⟨hO, hfs, rfl, rfl⟩, hm'.less ((((List.sublist_cons_self _ _).trans (List.sublist_cons_self _ _)).trans (List.sublist_cons_self _ _)).trans (List.sublist_cons_self _ _)) (fun _ h => .tail _ (.tail _ h))⟩
  simp only [hb54, Qz, ne_eq] at hc54
  obtain ⟨⟨x, first⟩, rfl⟩ : ∃ z, o = some z := by
   cases o with
   | none => exact absurd (show (32 : Int) = 0 from hc54) (by decide)
   | some z => exact ⟨z, rfl⟩
  obtain ⟨hx, hfi⟩ := hen _ (lkL_mem ho).1
  obtain ⟨⟨o1, o2⟩, ⟨o3, o4⟩, ⟨o5, o6⟩, ⟨o7, o8⟩, ⟨o9, o10⟩, ⟨o11, o12⟩, ⟨o13, o14⟩, ⟨o15, o16⟩, o17, o18⟩ := show ordN x from hx
  have hxf : in64 x.fund := by unfold in64; omega
  obtain ⟨⟨k1, k2⟩, ⟨k3, k4⟩, k5⟩ := ln_rng (c := ln.copies) (p := x.price) (q := ln.price) ⟨c1, c2⟩ ⟨o1, o2⟩ ⟨p1, p2⟩
  have hle := check_le (tol := s.tol) (ln := ln) (x := x) (first := first) hc54
  obtain ⟨v1, v2⟩ := frG_rng hfk (B := (k : Int) * 10000000000000) (by omega) hfr x.fund
  have hk999 : (k : Int) ≤ 999 := by omega
  rw [if_neg (fun q => q hc54)] at hstep
  dsimp only at hstep
  have hhere : (lkL M x.id).isSome = true := by rw [show x.id = ln.id from (lkL_mem ho).2, ho]; rfl
  refine w_skip (Zt ?_)
  refine w_seq_cut (σ := Array MapEntry × Nat × (Int → Option Int)) (fun z18 => MapF Tryz.prog 3 z18.1 (fFr z18.2.2) ∧ z18.2.2 x.fund = some (frG (fsM ms) fr x.fund) ∧ ∀ v, frS z18.2.2 x.fund v = frS fr x.fund v) (fun z18 => [(0, Value.pointer (some ⟨pO, 0, none⟩)), (5, Value.slice A23 ls.length c23), (7, Value.map (some pN)), (8, Value.map (some p34)), (10, Value.pointer (some ⟨p10, 0, none⟩)), (11, Value.pointer (some ⟨p11, 0, none⟩)), (35, Value.slice A23 ls.length c23), (36, Value.int .i64 (ls.length : Nat)), (37, Value.int .i64 (k : Nat))]) (fun z18 => (p11, Obj.cells (orC10 x first).toArray 100) :: (p10, Obj.cells ln.cells.toArray 25) :: (p34, Obj.map z18.1 z18.2.1) :: (pN, Obj.map esN ckN) :: (pO, Obj.cells (orC pF s.tol mO).toArray 38) :: (mO, Obj.map esO ckO) :: (mF, Obj.map esF ckF) :: (pF, Obj.cells (fnC mF money).toArray 125) :: (FB 130 ms ++ L)) (fun z18 => (wb33, notOwn ((pN, Obj.map esO ckO) :: ((pO, Obj.cells (orC pF s.tol mO).toArray 38) :: (mO, Obj.map esO ckO) :: (mF, Obj.map esF ckF) :: (pF, Obj.cells (fnC mF money).toArray 125) :: (FB 130 ms ++ L)))) :: (wb23, notOwn ((pO, Obj.cells (orC pF s.tol mO).toArray 38) :: (mO, Obj.map esO ckO) :: (mF, Obj.map esF ckF) :: (pF, Obj.cells (fnC mF money).toArray 125) :: (FB 130 ms ++ L))) :: ro) ?_ ?_
  ·refine w_seq ?_
   refine w_state _ ((p11, Obj.cells (orC10 x first).toArray 100) :: (p10, Obj.cells ln.cells.toArray 25) :: (p34, Obj.map es8 ck8) :: (pN, Obj.map esN ckN) :: (pO, Obj.cells (orC pF s.tol mO).toArray 38) :: (mO, Obj.map esO ckO) :: (mF, Obj.map esF ckF) :: (pF, Obj.cells (fnC mF money).toArray 125) :: (FB 130 ms ++ L)) _ ?_
   refine Zr ?_
   refine Xm ?_
   refine Xv rfl (v_fieldAddr (off' := 0) u100 rfl sz25 (by decide) rfl rfl) ?_
   refine Xv rfl (v_fieldAddr (off' := 1) u25 rfl sz3 (by decide) rfl rfl) ?_
   refine Xv rfl (v_load u3 rfl rfl (at_ownL (vs := orC10 x first) (.head _) rfl)) ?_
   refine Xv (v := Value.tuple #[.int .i64 ((fr x.fund).getD 0), .bool (fr x.fund).isSome]) rfl (v_lookup2H u113 (Maps.int_keyed u3) zr3 rfl rfl (Maps.keyOf_int_mk u3 (wf_in hxf)) (map_own (.tail _ (.tail _ (.head _)))) hM8 (by show ((fr x.fund).map _).getD _ = _; cases fr x.fund <;> rfl) (by show ((fr x.fund).map _).isSome = _; rw [Option.isSome_map])) ?_
   refine Xm ?_
   refine Xv rfl (v_extract rfl rfl) ?_
   refine Xb rfl (v_extract rfl rfl) fun b63 hb63 => ?_
   refine Xa ?_
   refine Xa ?_
   refine Ze (Zt (Zs (Zr ?_)))
   refine Xm ?_
   refine Xb rfl (v_not rfl) fun b65 hb65 => ?_
   refine Ze (Zt ?_)
   refine w_cond rfl (fun hc65 => ?_) (fun hc65 => ?_)
   ·have hun : fr x.fund = none := by
     rw [hb65, hb63] at hc65
     simpa using hc65
    refine rg_draw 12 [(true, 0), (true, 1), (true, 2), (true, 3), (true, 4), (true, 5), (true, 6), (true, 7), (true, 8), (true, 9), (true, 10), (true, 11)] Zk Zk ?_
    refine Xm ?_
    refine Xv rfl (v_fieldAddr (off' := 0) u100 rfl sz25 (by decide) rfl rfl) ?_
    refine Xv rfl (v_fieldAddr (off' := 1) u25 rfl sz3 (by decide) rfl rfl) ?_
    refine Xv rfl (v_load u3 rfl rfl (at_ownL (vs := orC10 x first) (.head _) rfl)) ?_
    refine Xm ?_
    refine Xv rfl (v_nilCheck rfl) ?_
    refine Xv rfl (v_fieldAddr (off' := 0) u38 rfl sz35 (by decide) rfl rfl) ?_
    refine Xv rfl (v_load u35 rfl rfl (at_ownL (vs := orC pF s.tol mO) (.tail _ (.tail _ (.tail _ (.tail _ (.head _))))) rfl)) ?_
    refine Xv rfl (v_fieldAddr (off' := 0) u100 rfl sz25 (by decide) rfl rfl) ?_
    refine Xv rfl (v_fieldAddr (off' := 1) u25 rfl sz3 (by decide) rfl rfl) ?_
    refine Xv rfl (v_load u3 rfl rfl (at_ownL (vs := orC10 x first) (.head _) rfl)) ?_
    refine x_callv rfl rfl rfl Tryz.func31 Zk rfl (fun w1 hw1 => g_Free hw1 hF Zh Zh (fun p hp => by simp [hp]) hfk x.fund hxf) ?_
    refine x_mapUpdate [(p11, Obj.cells (orC10 x first).toArray 100), (p10, Obj.cells ln.cells.toArray 25)] (l2 := (pN, Obj.map esN ckN) :: (pO, Obj.cells (orC pF s.tol mO).toArray 38) :: (mO, Obj.map esO ckO) :: (mF, Obj.map esF ckF) :: (pF, Obj.cells (fnC mF money).toArray 125) :: (FB 130 ms ++ L)) (es := es8) (clock := ck8) rfl rfl rfl rfl u113 (Maps.int_keyed u3) (Maps.keyOf_int_mk u3 (wf_in hxf)) rfl hM8 ?_
    intro es66 clock66 hmf66
    refine Ze ?_
    exact c_norm (es66, clock66, frS fr x.fund (freeG (fsM ms) x.fund)) ⟨by rw [fFr_upd] at hmf66; exact hmf66, by show frS fr x.fund _ x.fund = _; unfold frS frG; rw [if_pos rfl, hun], fun v => frS_frS⟩ Zu (fun _ h => h)
   have hkn : ∃ v, fr x.fund = some v := by
    rw [hb65, hb63] at hc65
    exact Option.isSome_iff_exists.1 (by simpa using hc65)
   refine w_skip ?_
   obtain ⟨v9, hv9⟩ := hkn
   exact c_norm (es8, ck8, fr) ⟨hM8, by show fr x.fund = some _; unfold frG; rw [hv9], fun v => rfl⟩ Zu (fun _ h => h)
  rintro ⟨es9, ck9, fr9⟩ ⟨hz1, hz2, hz3⟩
  refine w_state ([(0, Value.pointer (some ⟨pO, 0, none⟩)), (5, Value.slice A23 ls.length c23), (7, Value.map (some pN)), (8, Value.map (some p34)), (10, Value.pointer (some ⟨p10, 0, none⟩)), (11, Value.pointer (some ⟨p11, 0, none⟩)), (35, Value.slice A23 ls.length c23), (36, Value.int .i64 (ls.length : Nat)), (37, Value.int .i64 (k : Nat))]) ((p11, Obj.cells (orC10 x first).toArray 100) :: (p10, Obj.cells ln.cells.toArray 25) :: (p34, Obj.map es9 ck9) :: (pN, Obj.map esN ckN) :: (pO, Obj.cells (orC pF s.tol mO).toArray 38) :: (mO, Obj.map esO ckO) :: (mF, Obj.map esF ckF) :: (pF, Obj.cells (fnC mF money).toArray 125) :: (FB 130 ms ++ L)) ((wb33, notOwn ((pN, Obj.map esO ckO) :: ((pO, Obj.cells (orC pF s.tol mO).toArray 38) :: (mO, Obj.map esO ckO) :: (mF, Obj.map esF ckF) :: (pF, Obj.cells (fnC mF money).toArray 125) :: (FB 130 ms ++ L)))) :: (wb23, notOwn ((pO, Obj.cells (orC pF s.tol mO).toArray 38) :: (mO, Obj.map esO ckO) :: (mF, Obj.map esF ckF) :: (pF, Obj.cells (fnC mF money).toArray 125) :: (FB 130 ms ++ L))) :: ro) ?_
  dsimp only at hz1 hz2 hz3
  refine Zs (Zr ?_)
  refine Xm ?_
  refine Xv rfl (v_fieldAddr (off' := 0) u100 rfl sz25 (by decide) rfl rfl) ?_
  refine Xv rfl (v_fieldAddr (off' := 1) u25 rfl sz3 (by decide) rfl rfl) ?_
  refine Xv rfl (v_load u3 rfl rfl (at_ownL (vs := orC10 x first) (.head _) rfl)) ?_
  refine Xv (v := Value.int .i64 (frG (fsM ms) fr x.fund)) rfl (v_lookupH u113 (Maps.int_keyed u3) zr3 rfl rfl (Maps.keyOf_int_mk u3 (wf_in hxf)) (map_own (.tail _ (.tail _ (.head _)))) hz1 (by show ((fr9 x.fund).map _).getD _ = _; rw [hz2]; rfl)) ?_
  refine Xv rfl (v_fieldAddr (off' := 4) u25 rfl sz3 (by decide) rfl rfl) ?_
  refine Xv rfl (v_load u3 rfl rfl (at_ownL (vs := ln.cells) (.tail _ (.head _)) rfl)) ?_
  refine Xv rfl (v_fieldAddr (off' := 0) u100 rfl sz25 (by decide) rfl rfl) ?_
  refine Xv rfl (v_fieldAddr (off' := 5) u25 rfl sz3 (by decide) rfl rfl) ?_
  refine Xv rfl (v_load u3 rfl rfl (at_ownL (vs := orC10 x first) (.head _) rfl)) ?_
  refine Xv rfl (v_fieldAddr (off' := 5) u25 rfl sz3 (by decide) rfl rfl) ?_
  refine Xv rfl (v_load u3 rfl rfl (at_ownL (vs := ln.cells) (.tail _ (.head _)) rfl)) ?_
  refine Xv rfl (v_subi rfl rfl rfl Zo) ?_
  refine Xv rfl (v_muli rfl rfl rfl Zo) ?_
  refine Xv rfl (v_addi rfl rfl rfl Zo) ?_
  refine x_mapUpdate [(p11, Obj.cells (orC10 x first).toArray 100), (p10, Obj.cells ln.cells.toArray 25)] (l2 := (pN, Obj.map esN ckN) :: (pO, Obj.cells (orC pF s.tol mO).toArray 38) :: (mO, Obj.map esO ckO) :: (mF, Obj.map esF ckF) :: (pF, Obj.cells (fnC mF money).toArray 125) :: (FB 130 ms ++ L)) (es := es9) (clock := ck9) rfl rfl rfl rfl u113 (Maps.int_keyed u3) (Maps.keyOf_int_mk u3 (wf_in hxf)) rfl hz1 ?_
  intro es78 clock78 hmf78
  refine Ze (Zt (Zs (Zs (Zr ?_))))
  refine Xm ?_
  refine Xv rfl (v_fieldAddr (off' := 0) u100 rfl sz25 (by decide) rfl rfl) ?_
  refine Xv rfl (v_fieldAddr (off' := 1) u25 rfl sz3 (by decide) rfl rfl) ?_
  refine Xv rfl (v_load u3 rfl rfl (at_ownL (vs := orC10 x first) (.head _) rfl)) ?_
  refine Xv (v := Value.int .i64 ((frG (fsM ms) fr x.fund) + ln.copies * (x.price - ln.price))) rfl (v_lookupH u113 (Maps.int_keyed u3) zr3 rfl rfl (Maps.keyOf_int_mk u3 (wf_in hxf)) (map_own (.tail _ (.tail _ (.head _)))) hmf78 (by rw [fupd_self]; rfl)) ?_
  refine Xb rfl (v_lss rfl rfl) fun b98 hb98 => ?_
  refine Ze (Zt ?_)
  refine w_cond rfl (fun hc98 => ?_) (fun hc98 => ?_)
  ·simp only [hb98, Qz, ne_eq] at hc98
   refine Zs (Zr ?_)
   refine Xa ?_
   refine Ze (Zt (w_ret (t_ret (b_ret (t_ret (t_ret (b_ret (t_ret ?_))))))))
   refine ret1 rfl rfl (fun w' hm' => ?_)
   have hG : (goI s.tol (fsM ms) s.L (fun _ => none) ls).1 = 60 := by rw [hstep, if_pos (by omega)]
   rw [show (invoiceG s ls 0) = (60, s) from by unfold invoiceG; rw [if_neg (by decide), ← hfs, if_pos (by rw [hG]; decide), hG]]
   exact ⟨rfl, (mO, esO, ckO, ms), ⟨hO, hfs, rfl, rfl⟩, hm'.less ((((List.sublist_cons_self _ _).trans (List.sublist_cons_self _ _)).trans (List.sublist_cons_self _ _)).trans (List.sublist_cons_self _ _)) (fun _ h => .tail _ (.tail _ h))⟩
  simp only [hb98, Qz, ne_eq] at hc98
  refine w_skip (Zt (Zs (Zr ?_)))
  refine Xv rfl (v_fieldAddr (off' := 0) u100 rfl sz25 (by decide) rfl rfl) ?_
  refine Xv rfl (v_fieldAddr (off' := 7) u25 rfl sz3 (by decide) rfl rfl) ?_
  refine Xv rfl (v_load u3 rfl rfl (at_ownL (vs := orC10 x first) (.head _) rfl)) ?_
  refine Xv rfl (v_fieldAddr (off' := 4) u25 rfl sz3 (by decide) rfl rfl) ?_
  refine Xv rfl (v_load u3 rfl rfl (at_ownL (vs := ln.cells) (.tail _ (.head _)) rfl)) ?_
  refine Xv rfl (v_addi rfl rfl rfl Zo) ?_
  refine Xv rfl (v_fieldAddr (off' := 0) u100 rfl sz25 (by decide) rfl rfl) ?_
  refine Xv rfl (v_fieldAddr (off' := 7) u25 rfl sz3 (by decide) rfl rfl) ?_
  refine x_store (cs := orC10 x first) (off := 7) (e := 100) (l2 := (p10, Obj.cells ln.cells.toArray 25) :: (p34, Obj.map es78 clock78) :: (pN, Obj.map esN ckN) :: (pO, Obj.cells (orC pF s.tol mO).toArray 38) :: (mO, Obj.map esO ckO) :: (mF, Obj.map esF ckF) :: (pF, Obj.cells (fnC mF money).toArray 125) :: (FB 130 ms ++ L)) [] rfl rfl rfl rfl sz3 rfl (by show 8 ≤ 10; decide) ?_
  refine Ze (Zt ?_)
  refine w_state _ ((p11, Obj.cells (orC10 { x with paid := x.paid + ln.copies } first).toArray 100) :: (p10, Obj.cells ln.cells.toArray 25) :: (p34, Obj.map es78 clock78) :: (pN, Obj.map esN ckN) :: (pO, Obj.cells (orC pF s.tol mO).toArray 38) :: (mO, Obj.map esO ckO) :: (mF, Obj.map esF ckF) :: (pF, Obj.cells (fnC mF money).toArray 125) :: (FB 130 ms ++ L)) _ ?_
  refine Zr ?_
  refine Xm ?_
  refine Xv rfl (v_fieldAddr (off' := 0) u25 rfl sz3 (by decide) rfl rfl) ?_
  refine Xv rfl (v_load u3 rfl rfl (at_ownL (vs := ln.cells) (.tail _ (.head _)) rfl)) ?_
  refine Xv rfl (v_load_blk (e := 100) (fz := (0, 0)) (cs := (orC10 { x with paid := x.paid + ln.copies } first).toArray) u100 rfl rfl (.head _) sz100) ?_
  refine x_mapUpdateC [(p11, Obj.cells (orC10 { x with paid := x.paid + ln.copies } first).toArray 100), (p10, Obj.cells ln.cells.toArray 25), (p34, Obj.map es78 clock78)] (l2 := (pO, Obj.cells (orC pF s.tol mO).toArray 38) :: (mO, Obj.map esO ckO) :: (mF, Obj.map esF ckF) :: (pF, Obj.cells (fnC mF money).toArray 125) :: (FB 130 ms ++ L)) (es := esN) (clock := ckN) rfl rfl rfl rfl u36 (Maps.int_keyed u3) (Maps.keyOf_int_mk u3 (wf_in hlid)) rfl hMN ?_
  intro es107 clock107 hmf107
  refine Ze (b_norm (Zt (Zr ?_)))
  refine Xv rfl (v_addi rfl rfl rfl Zo) ?_
  refine Xm ?_
  refine Ze ?_
  have hM7 : MapC Tryz.prog 3 es107 clock107 (fOL (setL M ({ x with paid := x.paid + ln.copies }, first))) := by
   rw [← fOL_set (y := ({ x with paid := x.paid + ln.copies }, first)) hhere]
   have h := hmf107
   rw [show ln.id = x.id from (lkL_mem ho).2.symm] at h
   exact h
  have hF7 : MapF Tryz.prog 3 es78 (fFr (frS fr x.fund ((frG (fsM ms) fr x.fund) + ln.copies * (x.price - ln.price)))) := by
   have h := hmf78
   rw [fFr_upd, hz3] at h
   exact h
  exact l_norm (k + 1, es78, clock78, frS fr x.fund ((frG (fsM ms) fr x.fund) + ln.copies * (x.price - ln.price)), es107, clock107, setL M ({ x with paid := x.paid + ln.copies }, first)) ⟨hkl, hF7, hM7, by rw [hstep, if_neg (by omega)], fun e he => by rcases setL_mem he with he | rfl; (· exact hen e he); exact ⟨paid_ordN hx ⟨by omega, hle.1⟩, hfi⟩, fun id v h => by
   have h : frS fr x.fund ((frG (fsM ms) fr x.fund) + ln.copies * (x.price - ln.price)) id = some v := h
   unfold frS at h
   split at h
   ·injection h with h; subst h; refine ⟨by omega, ?_⟩; dsimp only; push_cast; omega
   have := hfr id v h; refine ⟨this.1, ?_⟩; dsimp only; push_cast; omega⟩ (by simp only; omega) Zu (fun w1 h => h.less ((List.sublist_cons_self _ _).trans (List.sublist_cons_self _ _)) (fun _ h => h))
 simp only [hb38, Qz, ne_eq] at hc38
 obtain rfl : k = ls.length := by omega
 rw [List.drop_length] at hgo
 have hG0 : goI s.tol (fsM ms) s.L (fun _ => none) ls = (0, M) := hgo
 refine w_exit ?_
 refine t_exit ?_
 refine t_exit ?_
 refine b_hit ?_
 refine Zt (Zs (Zs (Zr ?_)))
 refine Xm ?_
 refine Xv rfl (v_len_slice u52 rfl) ?_
 refine Xm ?_
 refine Ze (Zt (w_block ?_))
 refine w_loop (σ := Nat × List FM) (fun z => z.1 ≤ ls.length ∧ fsM z.2 = (ls.take z.1).foldl (pay1 s.L) (fsM ms) ∧ fMM z.2 = fMM ms ∧ ∀ f ∈ fsM z.2, fundOK f.s) (fun z => [(0, Value.pointer (some ⟨pO, 0, none⟩)), (7, Value.map (some pN)), (112, Value.slice A23 ls.length c23), (113, Value.int .i64 (ls.length : Nat)), (114, Value.int .i64 (z.1 : Nat))]) (fun z => (pN, Obj.map esN ckN) :: (pO, Obj.cells (orC pF s.tol mO).toArray 38) :: (mO, Obj.map esO ckO) :: (mF, Obj.map esF ckF) :: (pF, Obj.cells (fnC mF money).toArray 125) :: (FB 130 z.2 ++ L)) (fun z => (wb33, notOwn ((pN, Obj.map esO ckO) :: ((pO, Obj.cells (orC pF s.tol mO).toArray 38) :: (mO, Obj.map esO ckO) :: (mF, Obj.map esF ckF) :: (pF, Obj.cells (fnC mF money).toArray 125) :: (FB 130 ms ++ L)))) :: (wb23, notOwn ((pO, Obj.cells (orC pF s.tol mO).toArray 38) :: (mO, Obj.map esO ckO) :: (mF, Obj.map esF ckF) :: (pF, Obj.cells (fnC mF money).toArray 125) :: (FB 130 ms ++ L))) :: ro) (fun z => ls.length - z.1) ((0, ms)) (⟨Nat.zero_le _, rfl, rfl, hfk⟩) (l_start Zu (fun _ h => h.less (List.sublist_cons_self _ _) (fun _ h => h))) ?_
 rintro ⟨k2, m2⟩ ⟨hk2, hg1, hg2, hg3⟩
 refine w_state ([(0, Value.pointer (some ⟨pO, 0, none⟩)), (7, Value.map (some pN)), (112, Value.slice A23 ls.length c23), (113, Value.int .i64 (ls.length : Nat)), (114, Value.int .i64 (k2 : Nat))]) ((pN, Obj.map esN ckN) :: (pO, Obj.cells (orC pF s.tol mO).toArray 38) :: (mO, Obj.map esO ckO) :: (mF, Obj.map esF ckF) :: (pF, Obj.cells (fnC mF money).toArray 125) :: (FB 130 m2 ++ L)) ((wb33, notOwn ((pN, Obj.map esO ckO) :: ((pO, Obj.cells (orC pF s.tol mO).toArray 38) :: (mO, Obj.map esO ckO) :: (mF, Obj.map esF ckF) :: (pF, Obj.cells (fnC mF money).toArray 125) :: (FB 130 ms ++ L)))) :: (wb23, notOwn ((pO, Obj.cells (orC pF s.tol mO).toArray 38) :: (mO, Obj.map esO ckO) :: (mF, Obj.map esF ckF) :: (pF, Obj.cells (fnC mF money).toArray 125) :: (FB 130 ms ++ L))) :: ro) ?_
 dsimp only at hk2 hg1 hg2 hg3
 refine Zs (Zr ?_)
 refine Xb rfl (v_lss rfl rfl) fun b115 hb115 => ?_
 refine Ze (Zt (Zs ?_))
 refine w_cond rfl (fun hc115 => ?_) (fun hc115 => ?_)
 ·simp only [hb115, Qz, ne_eq] at hc115
  have hkl : k2 < ls.length := by omega
  obtain ⟨lb, lo, hlA, hlD, hlc, hlok⟩ := ord_at hr23 (k := k2) hkl
  obtain ⟨⟨⟨c1, c2⟩, p1⟩, p2, i1, i2⟩ := hlns ls[k2] (List.getElem_mem hkl)
  have hlsk : ls[k2] ∈ ls := List.getElem_mem hkl
  obtain ⟨ln, hln⟩ : ∃ q, ls[k2] = q := ⟨_, rfl⟩
  rw [hln] at c1 c2 p1 p2 i1 i2 hlsk
  have hlid : in64 ln.id := by unfold in64; omega
  obtain ⟨⟨x, first⟩, ho⟩ := Option.isSome_iff_exists.1 (goI_some (by rw [hG0]) ln hlsk)
  obtain ⟨hx, hfi⟩ := hok.at ho
  obtain ⟨⟨o1, o2⟩, ⟨o3, o4⟩, ⟨o5, o6⟩, ⟨o7, o8⟩, ⟨o9, o10⟩, ⟨o11, o12⟩, ⟨o13, o14⟩, ⟨o15, o16⟩, o17, o18⟩ := show ordN x from hx
  have hxf : in64 x.fund := by unfold in64; omega
  obtain ⟨⟨k1, k2_⟩, ⟨k3, k4⟩, k5⟩ := ln_rng (c := ln.copies) (p := x.price) (q := ln.price) ⟨c1, c2⟩ ⟨o1, o2⟩ ⟨p1, p2⟩
  have hF2 : MapF Tryz.prog 3 esF (fMM m2) := by rw [hg2]; exact hF
  refine w_skip (Zt (Zs (w_block (Zs (Zr ?_)))))
  refine Xv rfl (v_indexAddr u52 sz25 (congrArg (fun A => some (Value.slice A ls.length c23)) hlA) rfl Zo rfl) ?_
  refine Xv rfl (v_loadN (vs := ln.cells) u25 rfl sz25 rfl (fun i hi => at_ro (.tail _ (.head _)) (fun q hq e => by have := hm23.lt hq; omega) (by rw [← hln]; exact hlc i hi))) ?_
  refine x_alloc rfl rfl rfl zr25 ?_
  intro p17
  refine x_store0 [] rfl rfl rfl rfl sz25 rfl rfl ?_
  refine Ze (Zt (Zs ?_))
  refine rg_inv ((p17, Obj.cells ln.cells.toArray 25) :: (pN, Obj.map esN ckN) :: (pO, Obj.cells (orC pF s.tol mO).toArray 38) :: (mO, Obj.map esO ckO) :: (mF, Obj.map esF ckF) :: (pF, Obj.cells (fnC mF money).toArray 125) :: (FB 130 m2 ++ L)) 9 (.flt 0 (.flt 1 (.flt 2 (.flt 3 (.flt 4 (.flt 5 (.flt 6 (.gr 7 (.gr 8 .done .nil) .nil)))))))) (.refl _) Zk Zk ?_
  refine j_val rfl rfl (v_move rfl) ?_
  refine j_val rfl rfl (v_nilCheck rfl) ?_
  refine j_val rfl rfl (v_fieldAddr (off' := 2) u38 rfl sz36 (by decide) rfl rfl) ?_
  refine j_val rfl rfl (v_load u36 rfl rfl (at_ownL (vs := orC pF s.tol mO) (.tail _ (.tail _ (.head _))) rfl)) ?_
  refine j_val rfl rfl (v_fieldAddr (off' := 0) u25 rfl sz3 (by decide) rfl rfl) ?_
  refine j_val rfl rfl (v_load u3 rfl rfl (at_ownL (vs := ln.cells) (.head _) rfl)) ?_
  refine j_val (v := orV x first) rfl rfl (v_lookupH u36 (Maps.int_keyed u3) zr100 rfl rfl (Maps.keyOf_int_mk u3 (wf_in hlid)) (map_own (.tail _ (.tail _ (.tail _ (.head _))))) hO.f (by rw [fOL_at, ho]; rfl)) ?_
  refine j_gr ?_ j_nil
  refine x_alloc rfl rfl rfl zr100 ?_
  intro p18
  refine Ze ?_
  refine j_end (List.sublist_cons_self _ _) ?_
  refine j_gr ?_ j_nil
  refine x_store0 [] rfl rfl rfl rfl sz100 rfl rfl ?_
  refine Ze ?_
  refine j_end (List.sublist_cons_self _ _) ?_
  refine j_done ?_
  refine Ze (Zt (Zs ?_))
  refine w_state _ ((p18, Obj.cells (orC10 x first).toArray 100) :: (p17, Obj.cells ln.cells.toArray 25) :: (pN, Obj.map esN ckN) :: (pO, Obj.cells (orC pF s.tol mO).toArray 38) :: (mO, Obj.map esO ckO) :: (mF, Obj.map esF ckF) :: (pF, Obj.cells (fnC mF money).toArray 125) :: (FB 130 m2 ++ L)) _ ?_
  refine rg_draw 13 [(true, 0), (true, 1), (true, 2), (true, 3), (true, 4), (true, 5), (true, 6), (true, 7), (true, 8), (true, 9), (true, 10), (true, 11), (true, 12)] Zk Zk ?_
  refine Xm ?_
  refine Xv rfl (v_nilCheck rfl) ?_
  refine Xv rfl (v_fieldAddr (off' := 0) u38 rfl sz35 (by decide) rfl rfl) ?_
  refine Xv rfl (v_load u35 rfl rfl (at_ownL (vs := orC pF s.tol mO) (.tail _ (.tail _ (.tail _ (.head _)))) rfl)) ?_
  refine Xv rfl (v_fieldAddr (off' := 0) u100 rfl sz25 (by decide) rfl rfl) ?_
  refine Xv rfl (v_fieldAddr (off' := 1) u25 rfl sz3 (by decide) rfl rfl) ?_
  refine Xv rfl (v_load u3 rfl rfl (at_ownL (vs := orC10 x first) (.head _) rfl)) ?_
  refine Xv rfl (v_fieldAddr (off' := 4) u25 rfl sz3 (by decide) rfl rfl) ?_
  refine Xv rfl (v_load u3 rfl rfl (at_ownL (vs := ln.cells) (.tail _ (.head _)) rfl)) ?_
  refine Xv rfl (v_fieldAddr (off' := 0) u100 rfl sz25 (by decide) rfl rfl) ?_
  refine Xv rfl (v_fieldAddr (off' := 5) u25 rfl sz3 (by decide) rfl rfl) ?_
  refine Xv rfl (v_load u3 rfl rfl (at_ownL (vs := orC10 x first) (.head _) rfl)) ?_
  refine Xv rfl (v_muli rfl rfl rfl Zo) ?_
  refine x_turnf (τ := List FM) (v := Value.int .i64 (postG relP (fsM m2) x.fund (ln.copies * x.price)).1) (fun q => fsM q = (postG relP (fsM m2) x.fund (ln.copies * x.price)).2 ∧ fMM q = fMM m2) (fun q => (p18, Obj.cells (orC10 x first).toArray 100) :: (p17, Obj.cells ln.cells.toArray 25) :: (pN, Obj.map esN ckN) :: (pO, Obj.cells (orC pF s.tol mO).toArray 38) :: (mO, Obj.map esO ckO) :: (mF, Obj.map esF ckF) :: (pF, Obj.cells (fnC mF money).toArray 125) :: (FB 130 q ++ L)) rfl rfl Tryz.func58 Zk rfl (fun w1 hw1 => g_rel (l1 := [(p18, Obj.cells (orC10 x first).toArray 100), (p17, Obj.cells ln.cells.toArray 25), (pN, Obj.map esN ckN), (pO, Obj.cells (orC pF s.tol mO).toArray 38), (mO, Obj.map esO ckO), (mF, Obj.map esF ckF), (pF, Obj.cells (fnC mF money).toArray 125)]) (ms := m2) hw1 hF2 Zh Zh hg3 (x.fund) (by unfold in64; omega) (ln.copies * x.price)) fun m138 hm138 => ?_
  have hF3 : MapF Tryz.prog 3 esF (fMM m138) := by rw [hm138.2]; exact hF2
  have hg4 : ∀ f ∈ fsM m138, fundOK f.s := by rw [hm138.1]; exact post_ok (fun f n => rel_ok) hg3
  refine Ze (Zt ?_)
  refine rg_draw 12 [(true, 0), (true, 1), (true, 2), (true, 3), (true, 4), (true, 5), (true, 6), (true, 7), (true, 8), (true, 9), (true, 10), (true, 11)] Zk Zk ?_
  refine Xm ?_
  refine Xv rfl (v_nilCheck rfl) ?_
  refine Xv rfl (v_fieldAddr (off' := 0) u38 rfl sz35 (by decide) rfl rfl) ?_
  refine Xv rfl (v_load u35 rfl rfl (at_ownL (vs := orC pF s.tol mO) (.tail _ (.tail _ (.tail _ (.head _)))) rfl)) ?_
  refine Xv rfl (v_fieldAddr (off' := 0) u100 rfl sz25 (by decide) rfl rfl) ?_
  refine Xv rfl (v_fieldAddr (off' := 1) u25 rfl sz3 (by decide) rfl rfl) ?_
  refine Xv rfl (v_load u3 rfl rfl (at_ownL (vs := orC10 x first) (.head _) rfl)) ?_
  refine Xv rfl (v_fieldAddr (off' := 4) u25 rfl sz3 (by decide) rfl rfl) ?_
  refine Xv rfl (v_load u3 rfl rfl (at_ownL (vs := ln.cells) (.tail _ (.head _)) rfl)) ?_
  refine Xv rfl (v_fieldAddr (off' := 5) u25 rfl sz3 (by decide) rfl rfl) ?_
  refine Xv rfl (v_load u3 rfl rfl (at_ownL (vs := ln.cells) (.tail _ (.head _)) rfl)) ?_
  refine Xv rfl (v_muli rfl rfl rfl Zo) ?_
  refine x_turnf (τ := List FM) (v := Value.int .i64 (postG spdP (fsM m138) x.fund (ln.copies * ln.price)).1) (fun q => fsM q = (postG spdP (fsM m138) x.fund (ln.copies * ln.price)).2 ∧ fMM q = fMM m138) (fun q => (p18, Obj.cells (orC10 x first).toArray 100) :: (p17, Obj.cells ln.cells.toArray 25) :: (pN, Obj.map esN ckN) :: (pO, Obj.cells (orC pF s.tol mO).toArray 38) :: (mO, Obj.map esO ckO) :: (mF, Obj.map esF ckF) :: (pF, Obj.cells (fnC mF money).toArray 125) :: (FB 130 q ++ L)) rfl rfl Tryz.func63 Zk rfl (fun w1 hw1 => g_spd (l1 := [(p18, Obj.cells (orC10 x first).toArray 100), (p17, Obj.cells ln.cells.toArray 25), (pN, Obj.map esN ckN), (pO, Obj.cells (orC pF s.tol mO).toArray 38), (mO, Obj.map esO ckO), (mF, Obj.map esF ckF), (pF, Obj.cells (fnC mF money).toArray 125)]) (ms := m138) hw1 hF3 Zh Zh hg4 (x.fund) (by unfold in64; omega) (ln.copies * ln.price)) fun m151 hm151 => ?_
  refine Ze (b_norm (Zt (Zr ?_)))
  refine Xv rfl (v_addi rfl rfl rfl Zo) ?_
  refine Xm ?_
  refine Ze ?_
  exact l_norm (k2 + 1, m151) ⟨hkl, by dsimp only; rw [foldl_snoc _ _ hkl, hln, ← hg1, hm151.1, hm138.1]; unfold pay1; rw [ho], (hm151.2.trans hm138.2).trans hg2, by dsimp only; rw [hm151.1]; exact post_ok (fun f n => spd_ok) hg4⟩ (by simp only; omega) Zu (fun w1 h => h.less ((List.sublist_cons_self _ _).trans (List.sublist_cons_self _ _)) (fun _ h => h))
 simp only [hb115, Qz, ne_eq] at hc115
 obtain rfl : k2 = ls.length := by omega
 rw [List.take_length] at hg1
 refine w_exit ?_
 refine t_exit ?_
 refine t_exit ?_
 refine b_hit ?_
 refine Zt (Zs (Zr ?_))
 refine Xm ?_
 refine Xm ?_
 refine Xv rfl (v_nilCheck rfl) ?_
 refine Xv rfl (v_fieldAddr (off' := 2) u38 rfl sz36 (by decide) rfl rfl) ?_
 refine x_store (cs := orC pF s.tol mO) (off := 2) (e := 38) (l2 := (mO, Obj.map esO ckO) :: (mF, Obj.map esF ckF) :: (pF, Obj.cells (fnC mF money).toArray 125) :: (FB 130 m2 ++ L)) [(pN, Obj.map esN ckN)] rfl rfl rfl rfl sz36 rfl (by show 3 ≤ 3; decide) ?_
 refine Ze (Zt (Zs (Zr ?_)))
 refine Xa ?_
 refine Ze (Zt (w_ret ?_))
 refine ret1 rfl rfl (fun w' hm' => ?_)
 rw [show (invoiceG s ls 0) = (0, ⟨ls.foldl (pay1 s.L) (fsM ms), s.tol, M⟩) from by unfold invoiceG; rw [if_neg (by decide), ← hfs, hG0, if_neg (fun q => q rfl)]]
 exact ⟨rfl, (pN, esN, ckN, m2), ⟨hMN, hg1, hg2, rfl⟩, (hm'.perm (List.Perm.swap _ _ _)).less (List.Sublist.cons_cons _ (List.Sublist.cons_cons _ (List.sublist_cons_self _ _))) (fun _ h => .tail _ (.tail _ h))⟩
theorem g_PayE {w : World} {L : List (Nat × Obj)} {ro : List Snap} {mF pF pO mO ckF ckO : Nat} {esF esO : Array MapEntry} {money : Int} {ms : List FM} {s : SG} (hm : Mem w ((pO, Obj.cells (orC pF s.tol mO).toArray 38) :: (mO, Obj.map esO ckO) :: (mF, Obj.map esF ckF) :: (pF, Obj.cells (fnC mF money).toArray 125) :: (FB 130 ms ++ L)) ro) (hF : MapF Tryz.prog 3 esF (fMM ms)) (hO : MapC Tryz.prog 3 esO ckO (fOL s.L)) (hfs : fsM ms = s.fs) (hok : SGok s) {ws : World} (hws : (ws, fun _ => True) ∈ ro) (hL : LD ws) (s0 : ByteArray) (hs : s0.size ≤ 200000000) (hbig : bigO (parR s0).1) {ls : List PK.Ord} {c : Int} (hrd : rdTI s0 = (ls, c)) (hc0 : c ≠ 0) :
  Calls Tryz.prog 15 #[.pointer (some ⟨pO, 0, none⟩), .string s0] w fun e w' => e = .returned (.int .i64 (invoiceG s ls c).1) ∧ ∃ q : Nat × Array MapEntry × Nat × List FM, (MapC Tryz.prog 3 q.2.1 q.2.2.1 (fOL (invoiceG s ls c).2.L) ∧ fsM q.2.2.2 = (invoiceG s ls c).2.fs ∧ fMM q.2.2.2 = fMM ms ∧ (invoiceG s ls c).2.tol = s.tol) ∧ Mem w' ((pO, Obj.cells (orC pF s.tol q.1).toArray 38) :: (q.1, Obj.map q.2.1 q.2.2.1) :: (mF, Obj.map esF ckF) :: (pF, Obj.cells (fnC mF money).toArray 125) :: (FB 130 q.2.2.2 ++ L)) ro := by
 refine enter_in hm (vs := [.pointer (some ⟨pO, 0, none⟩), .string s0]) Tryz.func15 rfl Tryz.ntmps15 rfl ?_
 refine Zs (Zr ?_)
 refine Xa ?_
 refine Ze (Zt (Zs (Zs (Zr ?_))))
 refine Xm ?_
 refine Xv (v := Value.bool false) rfl (v_pnil (o := some ⟨pO, 0, none⟩) u27 rfl rfl) ?_
 refine Ze (Zt ?_)
 refine w_cond rfl (fun hc20 => ?_) (fun hc20 => ?_)
 ·cases hc20
 skip
 refine w_skip (Zt (Zs (Zr ?_)))
 refine Xm ?_
 refine x_call (R := fun v wa wb => ∃ A1 c1, v = .tuple #[.slice A1 ls.length c1, .int .i64 c] ∧ sliceRd tyOrd (fun b => wa.heap.size ≤ b) wb (.slice A1 ls.length c1) ls) rfl rfl rfl Tryz.func59 Zk rfl (fun w1 hw1 => (g_read2 s0 w1 hs hbig (hL.later (hw1.base (by first | exact hws | exact .tail _ hws | exact .tail _ (.tail _ hws) | exact .tail _ (.tail _ (.tail _ hws)))))).mono fun e w2 ⟨q, h1, h2, h3⟩ => by rw [hrd] at h1 h3; obtain ⟨A1, c1, rfl, _⟩ := id h3; exact ⟨_, h1, h2, A1, c1, rfl, h3⟩) fun v23 wa23 wb23 hm23 hl23 hR23 => ?_
 obtain ⟨A23, c23, rfl, hr23⟩ := hR23
 refine Xm ?_
 refine Xv rfl (v_extract rfl rfl) ?_
 refine Xv rfl (v_extract rfl rfl) ?_
 refine Xa ?_
 refine Xa ?_
 refine Ze (Zt (Zs (Zs (Zr ?_))))
 refine Xm ?_
 refine Xb rfl (v_neq rfl rfl) fun b27 hb27 => ?_
 refine Ze (Zt ?_)
 refine w_cond rfl (fun hc27 => ?_) (fun hc27 => ?_)
 ·simp only [hb27, Qz, ne_eq] at hc27
  refine Zs (Zr ?_)
  refine Xm ?_
  refine Xa ?_
  refine Ze (Zt (w_ret (t_ret ?_)))
  refine ret1 rfl rfl (fun w' hm' => ?_)
  rw [show (invoiceG s ls c) = (c, s) from if_pos hc0]
  exact ⟨rfl, (mO, esO, ckO, ms), ⟨hO, hfs, rfl, rfl⟩, hm'.less (.refl _) (fun _ h => .tail _ h)⟩
 exfalso
 rw [hb27] at hc27
 exact absurd (by simpa using hc27) hc0
theorem g_Pay {w : World} {L : List (Nat × Obj)} {ro : List Snap} {mF pF pO mO ckF ckO : Nat} {esF esO : Array MapEntry} {money : Int} {ms : List FM} {s : SG} (hm : Mem w ((pO, Obj.cells (orC pF s.tol mO).toArray 38) :: (mO, Obj.map esO ckO) :: (mF, Obj.map esF ckF) :: (pF, Obj.cells (fnC mF money).toArray 125) :: (FB 130 ms ++ L)) ro) (hF : MapF Tryz.prog 3 esF (fMM ms)) (hO : MapC Tryz.prog 3 esO ckO (fOL s.L)) (hfs : fsM ms = s.fs) (hok : SGok s) {ws : World} (hws : (ws, fun _ => True) ∈ ro) (hL : LD ws) (s0 : ByteArray) (hs : s0.size ≤ 200000000) (hbig : bigO (parR s0).1) : Calls Tryz.prog 15 #[.pointer (some ⟨pO, 0, none⟩), .string s0] w fun e w' => e = .returned (.int .i64 (invoiceG s (rdTI s0).1 (rdTI s0).2).1) ∧ ∃ q : Nat × Array MapEntry × Nat × List FM, (MapC Tryz.prog 3 q.2.1 q.2.2.1 (fOL (invoiceG s (rdTI s0).1 (rdTI s0).2).2.L) ∧ fsM q.2.2.2 = (invoiceG s (rdTI s0).1 (rdTI s0).2).2.fs ∧ fMM q.2.2.2 = fMM ms ∧ (invoiceG s (rdTI s0).1 (rdTI s0).2).2.tol = s.tol) ∧ Mem w' ((pO, Obj.cells (orC pF s.tol q.1).toArray 38) :: (q.1, Obj.map q.2.1 q.2.2.1) :: (mF, Obj.map esF ckF) :: (pF, Obj.cells (fnC mF money).toArray 125) :: (FB 130 q.2.2.2 ++ L)) ro := by
 obtain ⟨ls, c, hrd⟩ : ∃ a c, rdTI s0 = (a, c) := ⟨_, _, rfl⟩
 rw [hrd]
 by_cases hc : c = 0
 ·subst hc; exact g_PayO hm hF hO hfs hok hws hL s0 hs hbig hrd
 exact g_PayE hm hF hO hfs hok hws hL s0 hs hbig hrd hc
open Go.RowKit Go.PK
structure Fx where
  (pO pF mF ckF : Nat)
  esF : Array MapEntry
  money : Int
structure Sq where
  (mO ck : Nat)
  es : Array MapEntry
  ms : List FM
def Fx.own (x : Fx) (tol : Int) (q : Sq) : List (Nat × Obj) := (x.pO, Obj.cells (orC x.pF tol q.mO).toArray 38) :: (q.mO, Obj.map q.es q.ck) :: (x.mF, Obj.map x.esF x.ckF) :: (x.pF, Obj.cells (fnC x.mF x.money).toArray 125) :: FB 130 q.ms
structure Good (x : Fx) (s : SG) (q : Sq) : Prop where
  F : MapC Tryz.prog 3 x.esF x.ckF (fMM q.ms)
  O : MapC Tryz.prog 3 q.es q.ck (fOL s.L)
  fs : fsM q.ms = s.fs
  ok : SGok s
section
variable {w : World} {l1 L : List (Nat × Obj)} {ro : List Snap} {x : Fx} {s : SG} {q : Sq}
theorem own_in {tol : Int} {p : Nat × Obj} (h : p ∈ x.own tol q) : p ∈ l1 ++ (x.own tol q ++ L) := List.mem_append_right _ (List.mem_append_left _ h)
theorem own_O {tol : Int} : (x.pO, Obj.cells (orC x.pF tol q.mO).toArray 38) ∈ l1 ++ (x.own tol q ++ L) := own_in (.head _)
theorem own_mO {tol : Int} : (q.mO, Obj.map q.es q.ck) ∈ l1 ++ (x.own tol q ++ L) := own_in (.tail _ (.head _))
theorem own_mF {tol : Int} : (x.mF, Obj.map x.esF x.ckF) ∈ l1 ++ (x.own tol q ++ L) := own_in (.tail _ (.tail _ (.head _)))
theorem own_F {tol : Int} : (x.pF, Obj.cells (fnC x.mF x.money).toArray 125) ∈ l1 ++ (x.own tol q ++ L) := own_in (.tail _ (.tail _ (.tail _ (.head _))))
theorem own_fd {tol : Int} {p : Nat × Obj} (h : p ∈ FB 130 q.ms) : p ∈ l1 ++ (x.own tol q ++ L) := own_in (.tail _ (.tail _ (.tail _ (.tail _ h))))
def Out (x : Fx) (tol : Int) (l1 L : List (Nat × Obj)) (ro : List Snap) (R : Int × SG) (e : Ending) (w' : World) : Prop := e = .returned (.int .i64 R.1) ∧ ∃ q, Good x R.2 q ∧ Mem w' (l1 ++ (x.own tol q ++ L)) ro
theorem k_Place (hm : Mem w (l1 ++ (x.own s.tol q ++ L)) ro) (hg : Good x s q) {ws : World} (hws : (ws, fun _ => True) ∈ ro) (hL : LD ws) (y : PK.Ord) (hy : y.okA) (hlen : s.L.length ≤ 4000) : Calls Tryz.prog 12 #[.pointer (some ⟨x.pO, 0, none⟩), .agg y.cells.toArray] w (Out x s.tol l1 L ro (placeG s y)) := by
 refine (g_Place (L := l1 ++ L) (mO := q.mO) (ckO := q.ck) (esO := q.es) (ms := q.ms) hm.front hg.F.f hg.O hg.fs hg.ok hws hL y hy hlen).mono ?_
 rintro e w2 ⟨h1, r, ⟨h2, h3, h4, h5⟩, h6⟩
 exact ⟨h1, ⟨q.mO, r.2.1, r.1, r.2.2⟩, ⟨by rw [h4]; exact hg.F, h2, h3, place_ok hg.ok y⟩, Mem.front (a := x.own s.tol ⟨q.mO, r.2.1, r.1, r.2.2⟩) h6⟩
theorem k_Receive (hm : Mem w (l1 ++ (x.own s.tol q ++ L)) ro) (hg : Good x s q) {id : Int} (hid : in64 id) (n : Int) (hn : in64 n) : Calls Tryz.prog 14 #[.pointer (some ⟨x.pO, 0, none⟩), .int .i64 id, .int .i64 n] w (Out x s.tol l1 L ro (receiveG s id n)) := by
 refine (g_Receive (L := l1 ++ L) (mO := q.mO) (ckO := q.ck) (esO := q.es) (ms := q.ms) hm.front hg.F.f hg.O hg.fs hg.ok hid n hn).mono ?_
 rintro e w2 ⟨h1, r, ⟨h2, h3, h4, h5⟩, h6⟩
 exact ⟨h1, ⟨q.mO, r.2.1, r.1, r.2.2⟩, ⟨by rw [h4]; exact hg.F, h2, h3, receive_ok hg.ok id⟩, Mem.front (a := x.own s.tol ⟨q.mO, r.2.1, r.1, r.2.2⟩) h6⟩
theorem k_Cancel (hm : Mem w (l1 ++ (x.own s.tol q ++ L)) ro) (hg : Good x s q) {id : Int} (hid : in64 id) : Calls Tryz.prog 16 #[.pointer (some ⟨x.pO, 0, none⟩), .int .i64 id] w (Out x s.tol l1 L ro (cancelG s id)) := by
 refine (g_Cancel (L := l1 ++ L) (mO := q.mO) (ckO := q.ck) (esO := q.es) (ms := q.ms) hm.front hg.F.f hg.O hg.fs hg.ok hid).mono ?_
 rintro e w2 ⟨h1, r, ⟨h2, h3, h4, h5⟩, h6⟩
 exact ⟨h1, ⟨q.mO, r.2.1, r.1, r.2.2⟩, ⟨by rw [h4]; exact hg.F, h2, h3, cancel_ok hg.ok id⟩, Mem.front (a := x.own s.tol ⟨q.mO, r.2.1, r.1, r.2.2⟩) h6⟩
theorem k_Answer (hm : Mem w (l1 ++ (x.own s.tol q ++ L)) ro) (hg : Good x s q) {ws : World} (hws : (ws, fun _ => True) ∈ ro) (hL : LD ws) (t : ByteArray) (hs : t.size ≤ 200000000) (hbig : bigO (parR t).1) : Calls Tryz.prog 13 #[.pointer (some ⟨x.pO, 0, none⟩), .string t] w (Out x s.tol l1 L ro (answerG s (rdT t).1 (rdT t).2)) := by
 refine (g_Answer (L := l1 ++ L) (mO := q.mO) (ckO := q.ck) (esO := q.es) (ms := q.ms) hm.front hg.F.f hg.O hg.fs hg.ok hws hL t hs hbig).mono ?_
 rintro e w2 ⟨h1, r, ⟨h2, h3, h4, h5⟩, h6⟩
 exact ⟨h1, ⟨q.mO, r.2.1, r.1, r.2.2⟩, ⟨by rw [h4]; exact hg.F, h2, h3, answer_ok hg.ok (rdT_rng t).1 (rdT_rng t).2⟩, Mem.front (a := x.own s.tol ⟨q.mO, r.2.1, r.1, r.2.2⟩) h6⟩
theorem k_Invoice (hm : Mem w (l1 ++ (x.own s.tol q ++ L)) ro) (hg : Good x s q) {ws : World} (hws : (ws, fun _ => True) ∈ ro) (hL : LD ws) (t : ByteArray) (hs : t.size ≤ 200000000) (hbig : bigO (parR t).1) : Calls Tryz.prog 15 #[.pointer (some ⟨x.pO, 0, none⟩), .string t] w (Out x s.tol l1 L ro (invoiceG s (rdTI t).1 (rdTI t).2)) := by
 refine (g_Pay (L := l1 ++ L) (mO := q.mO) (ckO := q.ck) (esO := q.es) (ms := q.ms) hm.front hg.F.f hg.O hg.fs hg.ok hws hL t hs hbig).mono ?_
 rintro e w2 ⟨h1, r, ⟨h2, h3, h4, h5⟩, h6⟩
 exact ⟨h1, ⟨r.1, r.2.2.1, r.2.1, r.2.2.2⟩, ⟨by rw [h4]; exact hg.F, h2, h3, invoice_ok hg.ok (fun ln h => by have := (rdTI_ln ln h).1.1; omega)⟩, Mem.front (a := x.own s.tol ⟨r.1, r.2.2.1, r.2.1, r.2.2.2⟩) h6⟩
theorem k_EncO (hm : Mem w (l1 ++ (x.own s.tol q ++ L)) ro) (hg : Good x s q) (hn : s.L.length ≤ 5000) : Calls Tryz.prog 18 #[.pointer (some ⟨x.pO, 0, none⟩)] w fun e w' => e = .returned (.string ⟨(intsG (encL s.L)).toArray⟩) ∧ Later w w' :=
 g_EncO w hg.ok.srt hn hg.ok.L hg.O (at_ownL (vs := orC x.pF s.tol q.mO) own_O rfl w hm) (hm.own_at _ own_mO)
theorem k_EncF (hm : Mem w (l1 ++ (x.own s.tol q ++ L)) ro) (hg : Good x s q) (hn : s.fs.length ≤ 5000) (hs : srtF s.fs) (hfg : ∀ f ∈ s.fs, fgN f) : Calls Tryz.prog 24 #[.pointer (some ⟨x.pF, 0, none⟩)] w fun e w' => e = .returned (.string ⟨(intsG (encF s.fs)).toArray⟩) ∧ Later w w' := by
 rw [← hg.fs]
 exact g_EncF w (ids_of hg.fs hs) (by have := congrArg List.length hg.fs; unfold fsM at this; rw [List.length_map] at this; omega) (by rw [hg.fs]; exact hfg) hg.F (at_ownL (vs := fnC x.mF x.money) own_F rfl w hm) (hm.own_at _ own_mF) (fun y hy i v hv => at_ownL (vs := fxM y) (own_fd (List.mem_map_of_mem hy)) hv w hm)
theorem k_Order (hm : Mem w (l1 ++ (x.own s.tol q ++ L)) ro) (hg : Good x s q) {id : Int} (hid : in64 id) : Calls Tryz.prog 11 #[.pointer (some ⟨x.pO, 0, none⟩), .int .i64 id] w fun e w' => e = .returned (.tuple #[.agg (ozO (lkL s.L id)).1.cells.toArray, .bool (lkL s.L id).isSome]) ∧ Later w w' := by
 have h1 := at_ownL (vs := orC x.pF s.tol q.mO) (off := 2) own_O rfl w hm
 have h2 := hm.own_at _ own_mO
 cases hl : lkL s.L id with
 | none => exact g_Ord0 w h1 h2 hg.O hid hl
 | some z => obtain ⟨y, fi⟩ := z; exact g_Ord1 w h1 h2 hg.O hid hl
end
open Go.RowKit Go.PK
theorem g_FputN {w : World} {L : List (Nat × Obj)} {ro : List Snap} {pF : Nat} {money : Int} (g : FG) (hid : in64 g.id) (hmn : -1000000000000000000 ≤ money + g.s.al ∧ money + g.s.al ≤ 1000000000000000000) (hm : Mem w ((pF, Obj.cells [Value.map none, .int .i64 money].toArray 125) :: L) ro) :
  Calls Tryz.prog 67 #[.pointer (some ⟨pF, 0, none⟩), .agg (fgC g).toArray] w fun e w' => ∃ v, e = .returned v ∧ ∃ x : Nat × Nat × Array MapEntry × Nat, (v = .pointer (some ⟨x.1, 0, none⟩) ∧ MapC Tryz.prog 3 x.2.2.1 x.2.2.2 (fupd (fun _ => none) (.int .i64 g.id) (.pointer (some ⟨x.1, 0, none⟩)))) ∧ Mem w' ((x.1, Obj.cells (fxN g).toArray 130) :: (pF, Obj.cells (fnC x.2.1 (money + g.s.al)).toArray 125) :: (x.2.1, Obj.map x.2.2.1 x.2.2.2) :: L) ro := by
 refine enter_in hm (vs := [.pointer (some ⟨pF, 0, none⟩), .agg (fgC g).toArray]) Tryz.func67 rfl Tryz.ntmps67 rfl ?_
 refine Zs (Zr ?_)
 refine x_box rfl rfl rfl rfl ?_
 intro p3
 refine Xa ?_
 refine Ze (Zt (Zs (Zs (Zr ?_))))
 refine Xm ?_
 refine Xv rfl (v_nilCheck rfl) ?_
 refine Xv rfl (v_fieldAddr (off' := 0) u125 rfl sz123 (by decide) rfl rfl) ?_
 refine Xv rfl (v_load u123 rfl rfl (at_ownL (vs := [Value.map none, .int .i64 money]) (.tail _ (.head _)) rfl)) ?_
 refine Xv (v := Value.bool true) rfl (v_eqm (p := none) u123 rfl rfl) ?_
 refine Ze (Zt ?_)
 refine w_cond rfl (fun hc10 => ?_) (fun hc10 => ?_)
 ·skip
  refine Zr ?_
  refine Xm ?_
  refine x_makeMap rfl rfl rfl ?_
  intro p12
  refine Xv rfl (v_nilCheck rfl) ?_
  refine Xv rfl (v_fieldAddr (off' := 0) u125 rfl sz123 (by decide) rfl rfl) ?_
  refine x_store (cs := [Value.map none, .int .i64 money]) (off := 0) (e := 125) (l2 := L) [(p12, Obj.map #[] 0), (p3, Obj.cells (fgC g).toArray 71)] rfl rfl rfl rfl sz123 rfl (by show 1 ≤ 2; decide) ?_
  refine Ze (Zt (Zs (Zr ?_)))
  refine Xv rfl (v_load_blk u71 rfl rfl (by first | exact .head _ | exact .tail _ (.head _) | exact .tail _ (.tail _ (.head _)) | (repeat (first | exact List.Mem.head _ | apply List.Mem.tail | apply List.mem_append_right))) (by exact sz71)) ?_
  refine Xv (v := Value.agg (fxN g).toArray) rfl (v_buildL (cs := fxN g) (places := [(0, 5), (5, 1)]) u130 zr130 Zk rfl rfl) ?_
  refine x_box rfl rfl rfl rfl ?_
  intro p17
  refine Xa ?_
  refine Ze (Zt (Zs ?_))
  refine rg_draw 7 [(true, 0), (true, 1), (true, 2), (true, 3), (true, 4), (true, 5), (true, 6)] Zk Zk ?_
  refine Xm ?_
  refine Xv rfl (v_nilCheck rfl) ?_
  refine Xv rfl (v_fieldAddr (off' := 0) u125 rfl sz123 (by decide) rfl rfl) ?_
  refine Xv rfl (Vl u123 rfl) ?_
  refine Xv rfl (v_fieldAddr (off' := 0) u71 rfl sz3 (by decide) rfl rfl) ?_
  refine Xv rfl (Vl u3 rfl) ?_
  refine Xm ?_
  refine x_mapUpdateC [(p17, Obj.cells (fxN g).toArray 130)] rfl rfl rfl rfl u123 (Maps.int_keyed u3) (Maps.keyOf_int_mk u3 (wf_in hid)) rfl MapC.empty ?_
  intro es21 clock21 hmf21
  refine Ze (Zt (Zs ?_))
  refine rg_draw 9 [(true, 0), (true, 1), (true, 2), (true, 3), (true, 4), (true, 5), (true, 6), (true, 7), (true, 8)] Zk Zk ?_
  refine Xm ?_
  refine Xv rfl (v_nilCheck rfl) ?_
  refine Xv rfl (v_fieldAddr (off' := 1) u125 rfl sz3 (by decide) rfl rfl) ?_
  refine Xv rfl (Vl u3 rfl) ?_
  refine Xv rfl (v_fieldAddr (off' := 2) u71 rfl sz3 (by decide) rfl rfl) ?_
  refine Xv rfl (Vl u3 rfl) ?_
  refine Xv rfl (v_addi (c := money + g.s.al) rfl rfl rfl (by omega)) ?_
  refine Xv rfl (v_nilCheck rfl) ?_
  refine Xv rfl (v_fieldAddr (off' := 1) u125 rfl sz3 (by decide) rfl rfl) ?_
  refine x_store (cs := [Value.map (some p12), .int .i64 money]) (off := 1) (e := 125) (l2 := L) [(p17, Obj.cells (fxN g).toArray 130), (p12, Obj.map es21 clock21), (p3, Obj.cells (fgC g).toArray 71)] rfl rfl rfl rfl sz3 rfl (by show 2 ≤ 2; decide) ?_
  refine Ze (Zt (Zs (Zr ?_)))
  refine Xm ?_
  refine Xa ?_
  refine Ze (Zt (w_ret ?_))
  exact ret1 rfl rfl (fun w' hm' => ⟨_, rfl, (p17, p12, es21, clock21), ⟨rfl, hmf21⟩, (hm'.less (.cons_cons _ (.cons_cons _ (.cons _ (.refl _)))) (fun _ h => h)).perm (.cons _ (.swap _ _ _))⟩)
 cases hc10
theorem g_FAdd {w : World} {L : List (Nat × Obj)} {ro : List Snap} {pF : Nat} (al : Int) (hm : Mem w ((pF, Obj.cells [Value.map none, .int .i64 0].toArray 125) :: L) ro) (hal : 0 ≤ al ∧ al ≤ 1000000000000000) :
  Calls Tryz.prog 23 #[.pointer (some ⟨pF, 0, none⟩), .int .i64 2, .int .i64 0, .int .i64 al] w fun e w' => e = .returned (.int .i64 0) ∧ ∃ x : Nat × Nat × Array MapEntry × Nat, MapC Tryz.prog 3 x.2.2.1 x.2.2.2 (fMM [⟨⟨2, 0, ⟨al, 0, 0⟩⟩, x.1, .slice none 0 0⟩]) ∧ Mem w' ((x.2.1, Obj.map x.2.2.1 x.2.2.2) :: (pF, Obj.cells (fnC x.2.1 al).toArray 125) :: (FB 130 [⟨⟨2, 0, ⟨al, 0, 0⟩⟩, x.1, .slice none 0 0⟩] ++ L)) ro := by
 refine enter_in hm (vs := [.pointer (some ⟨pF, 0, none⟩), .int .i64 2, .int .i64 0, .int .i64 al]) Tryz.func23 rfl Tryz.ntmps23 rfl ?_
 refine Zs (Zr ?_)
 refine Xa ?_
 refine Ze (Zt (Zs (Zs (Zr ?_))))
 refine Xm ?_
 refine Xb rfl (v_pnil (o := some ⟨pF, 0, none⟩) u35 rfl rfl) fun b12 hb12 => ?_
 refine Xm ?_
 refine Xg ?_
 refine Xj rfl rfl rfl (fun hg0 => by subst hg0; (try simp only [Qy]); exact v_lss rfl rfl) fun b15 hb15 => ?_
 refine Xb rfl (v_or rfl rfl) fun b16 hb16 => ?_
 refine Xm ?_
 refine Xg ?_
 refine Xg ?_
 refine x_if [] rfl rfl rfl rfl rfl (v := Value.int .i64 (min 0 al)) (fun hg => by obtain ⟨hg0, _⟩ := hg; subst hg0; (try simp only [Qy]); exact v_min rfl rfl) ?_
 refine Xj rfl rfl rfl (fun hg0 => by subst hg0; (try simp only [Qy]); exact v_lss rfl rfl) fun b21 hb21 => ?_
 refine Xb rfl (v_or rfl rfl) fun b22 hb22 => ?_
 refine Ze (Zt ?_)
 refine w_cond rfl (fun hc22 => ?_) (fun hc22 => ?_)
 ·exfalso
  rw [hb22, hb21, hb16, hb15, hb12] at hc22
  revert hc22; simp; omega
 simp only [hb22, hb21, hb16, hb15, Qz, ne_eq] at hc22
 refine w_skip (Zt (Zs (Zr ?_)))
 refine Xm ?_
 refine Xv rfl (v_nilCheck rfl) ?_
 refine Xv rfl (v_fieldAddr (off' := 0) u125 rfl sz123 (by decide) rfl rfl) ?_
 refine Xv rfl (v_load u123 rfl rfl (at_ownL (vs := [Value.map none, .int .i64 0]) (.head _) rfl)) ?_
 refine Xm ?_
 refine Xv (v := Value.pointer none) rfl (v_lookup_nil u123 (Maps.int_keyed u3) zr126 rfl rfl (Maps.keyOf_int_mk u3 (by decide))) ?_
 refine Xa ?_
 refine Ze (Zt (Zs (w_block (Zs (Zr ?_)))))
 refine Xm ?_
 refine Xv rfl (v_nilCheck rfl) ?_
 refine Xv rfl (v_fieldAddr (off' := 0) u125 rfl sz123 (by decide) rfl rfl) ?_
 refine Xv rfl (v_load u123 rfl rfl (at_ownL (vs := [Value.map none, .int .i64 0]) (.head _) rfl)) ?_
 refine Xm ?_
 refine Xv (v := Value.pointer none) rfl (v_lookup_nil u123 (Maps.int_keyed u3) zr126 rfl rfl (Maps.keyOf_int_mk u3 (by decide))) ?_
 refine Xv (v := Value.bool false) rfl (v_nep (p := none) u126 rfl rfl) ?_
 refine Xa ?_
 refine Ze (Zt ?_)
 refine w_cond rfl (fun hc29 => ?_) (fun hc29 => ?_)
 ·cases hc29
 skip
 refine Zs (Zr ?_)
 refine Xm ?_
 refine Xb rfl (v_neq rfl rfl) fun b39 hb39 => ?_
 refine Xm ?_
 refine Xg ?_
 refine x_ifb [] rfl rfl rfl rfl rfl (c := true) (fun hg => by obtain ⟨hg0, _⟩ := hg; subst hg0; (try simp only [Qy]); exact v_pnil (o := none) u126 rfl rfl) fun b42 hb42 => ?_
 refine Xb rfl (v_and rfl rfl) fun b43 hb43 => ?_
 refine Xa ?_
 refine Ze (Zt ?_)
 refine w_cond rfl (fun hc37 => ?_) (fun hc37 => ?_)
 ·exfalso
  rw [hb43, hb39] at hc37
  revert hc37; simp
 simp only [hb43, hb39, Qz, ne_eq] at hc37
 refine Zs (Zr ?_)
 refine Xm ?_
 refine Xv rfl (v_nilCheck rfl) ?_
 refine Xv rfl (v_fieldAddr (off' := 0) u125 rfl sz123 (by decide) rfl rfl) ?_
 refine Xv rfl (v_load u123 rfl rfl (at_ownL (vs := [Value.map none, .int .i64 0]) (.head _) rfl)) ?_
 refine Xv (v := Value.int .i64 0) rfl (v_len_mapnil u123 rfl) ?_
 refine Xb rfl (v_geq rfl rfl) fun b50 hb50 => ?_
 refine Xm ?_
 refine Xg ?_
 refine Xg ?_
 refine Xi rfl rfl rfl (fun hg0 => by subst hg0; (try simp only [Qy]); exact v_nilCheck rfl) ?_
 refine Xi rfl rfl rfl (fun hg0 => by subst hg0; (try simp only [Qy]); exact v_fieldAddr (off' := 1) u125 rfl sz3 (by decide) rfl rfl) ?_
 refine Xi rfl rfl rfl (fun hg0 => by subst hg0; (try simp only [Qy]); exact v_load u3 rfl rfl (at_ownL (vs := [Value.map none, .int .i64 0]) (.head _) rfl)) ?_
 refine Xi rfl rfl rfl (fun hg0 => by subst hg0; (try simp only [Qy]); exact v_subi rfl rfl rfl Zo) ?_
 refine Xj rfl rfl rfl (fun hg0 => by subst hg0; (try simp only [Qy]); exact v_gtr rfl rfl) fun b58 hb58 => ?_
 refine Xb rfl (v_or rfl rfl) fun b59 hb59 => ?_
 refine Xa ?_
 refine Ze (Zt ?_)
 refine w_cond rfl (fun hc44 => ?_) (fun hc44 => ?_)
 ·exfalso
  rw [hb59, hb58, hb50] at hc44
  revert hc44; simp; omega
 simp only [hb59, hb58, hb50, Qz, ne_eq] at hc44
 refine w_skip (b_norm (Zt (Zs (Zr ?_))))
 refine Xm ?_
 refine Xm ?_
 refine Xm ?_
 refine Xm ?_
 refine Xv (v := Value.agg (fgC ⟨2, 0, ⟨al, 0, 0⟩⟩).toArray) rfl (v_buildL (cs := fgC ⟨2, 0, ⟨al, 0, 0⟩⟩) (places := [(0, 1), (1, 1), (2, 1), (3, 1), (4, 1)]) u71 zr71 Zk rfl rfl) ?_
 refine x_turn_n (fun (x : Nat × Nat × Array MapEntry × Nat) v _ _ => v = .pointer (some ⟨x.1, 0, none⟩) ∧ MapC Tryz.prog 3 x.2.2.1 x.2.2.2 (fupd (fun _ => none) (.int .i64 2) (.pointer (some ⟨x.1, 0, none⟩)))) (fun x => (x.1, Obj.cells (fxN ⟨2, 0, ⟨al, 0, 0⟩⟩).toArray 130) :: (pF, Obj.cells (fnC x.2.1 al).toArray 125) :: (x.2.1, Obj.map x.2.2.1 x.2.2.2) :: L) rfl rfl Tryz.func67 Zk rfl (fun w1 hw1 => (g_FputN (money := 0) (L := L) ⟨2, 0, ⟨al, 0, 0⟩⟩ (by show in64 2; unfold in64; decide) (by show -1000000000000000000 ≤ 0 + al ∧ 0 + al ≤ _; omega) hw1).mono fun e w2 ⟨v, h1, x, h2, h3⟩ => ⟨v, h1, x, h2, h3.to (by show _ :: (pF, Obj.cells (fnC x.2.1 (0 + al)).toArray 125) :: _ = _; rw [Int.zero_add])⟩) ?_
 rintro _ ⟨pX, mF, esF, ckF⟩ wa wb _ ⟨rfl, hmf⟩ _
 refine Xa ?_
 refine Ze (Zt (Zs (Zs (Zr ?_))))
 refine Xm ?_
 refine Xv (v := Value.bool false) rfl (v_nep (p := none) u126 rfl rfl) ?_
 refine Ze (Zt ?_)
 refine w_cond rfl (fun hc67 => ?_) (fun hc67 => ?_)
 ·cases hc67
 skip
 refine w_skip (Zt (Zs (Zr ?_)))
 refine Xa ?_
 refine Ze (Zt (w_ret ?_))
 exact ret1 rfl rfl (fun w' hm' => ⟨rfl, (pX, mF, esF, ckF), by rw [fMM_one]; exact hmf, (hm'.less (.refl _) (fun q hq => .tail _ hq)).perm ((List.reverse_perm [_, _, _]).symm.append_right L)⟩)
theorem k_has0 {pF : Nat} {i p : Int} {f : FSt} (w : World) (hF : ∀ w1, Later w w1 → Calls Tryz.prog 30 #[.pointer (some ⟨pF, 0, none⟩), .int .i64 2] w1 fun e w' => e = .returned (.tuple #[.agg (fgC ⟨i, p, f⟩).toArray, .bool true]) ∧ Later w1 w') (a b : Int) :
  Calls Tryz.prog 27 #[.pointer (some ⟨pF, 0, none⟩), .int .i64 a, .int .i64 b] w fun e w' => e = .returned (.bool (decide (f.en = a) && decide (f.sp = b))) ∧ Later w w' := by
 refine enter (vs := [.pointer (some ⟨pF, 0, none⟩), .int .i64 a, .int .i64 b]) Tryz.func27 rfl Tryz.ntmps27 rfl ?_
 refine Zs (Zr ?_)
 refine Xa ?_
 refine Ze (Zt (Zs (Zr ?_)))
 refine Xm ?_
 refine x_callv (v := Value.tuple #[.agg (fgC ⟨i, p, f⟩).toArray, .bool true]) rfl rfl rfl Tryz.func30 Zk rfl (fun w1 hw1 => hF w1 (hw1.base (by simp))) ?_
 refine Xm ?_
 refine Xv rfl (v_extract rfl rfl) ?_
 refine Xb rfl (v_extract rfl rfl) fun b13 hb13 => ?_
 refine x_alloc rfl rfl rfl zr71 ?_
 intro p7
 refine x_store0 [] rfl rfl rfl rfl sz71 rfl rfl ?_
 refine Xa ?_
 refine Ze (Zt (Zs (Zr ?_)))
 refine Xm ?_
 refine Xm ?_
 refine Xi rfl rfl rfl (fun hg0 => by subst hg0; (try simp only [Qy]); exact v_fieldAddr (off' := 4) u71 rfl sz3 (by decide) rfl rfl) ?_
 refine Xi rfl rfl rfl (fun hg0 => by subst hg0; (try simp only [Qy]); exact v_load u3 rfl rfl (at_ownL (vs := fgC ⟨i, p, f⟩) (.head _) rfl)) ?_
 refine Xg ?_
 refine Xj rfl rfl rfl (fun hg0 => by subst hg0; (try simp only [Qy]); exact v_eql rfl rfl) fun b19 hb19 => ?_
 refine Xb rfl (v_and rfl rfl) fun b20 hb20 => ?_
 refine Xm ?_
 refine Xi rfl rfl rfl (fun hg0 => by subst hg0; (try simp only [Qy]); exact v_fieldAddr (off' := 3) u71 rfl sz3 (by decide) rfl rfl) ?_
 refine Xi rfl rfl rfl (fun hg0 => by subst hg0; (try simp only [Qy]); exact v_load u3 rfl rfl (at_ownL (vs := fgC ⟨i, p, f⟩) (.head _) rfl)) ?_
 refine Xg ?_
 refine Xj rfl rfl rfl (fun hg0 => by subst hg0; (try simp only [Qy]); exact v_eql rfl rfl) fun b25 hb25 => ?_
 refine Xb rfl (v_and rfl rfl) fun b26 hb26 => ?_
 refine Xa ?_
 refine Ze (Zt (w_ret ?_))
 refine ret1 rfl rfl (fun w' hm => ⟨?_, hm.base (by simp)⟩)
 rw [hb26, hb25, hb20, hb19, hb13]; rfl
theorem k_has {w : World} {l1 L : List (Nat × Obj)} {ro : List Snap} {x : Fx} {s : SG} {q : Sq} (hm : Mem w (l1 ++ (x.own s.tol q ++ L)) ro) (hg : Good x s q) {f : FSt} (hl : lkF s.fs 2 = some f) (a b : Int) : Calls Tryz.prog 27 #[.pointer (some ⟨x.pF, 0, none⟩), .int .i64 a, .int .i64 b] w fun e w' => e = .returned (.bool (decide (f.en = a) && decide (f.sp = b))) ∧ Later w w' := by
 obtain ⟨y, h1, h2, h3⟩ := lkM_of hg.fs hl
 subst h2
 refine k_has0 (i := y.g.id) (p := y.g.par) w (fun w1 hw1 => ?_) a b
 have hm := hm.later hw1
 exact g_Fund1 (x := y) hg.F.f (at_ownL (vs := fnC x.mF x.money) own_F rfl w1 hm) (hm.own_at _ own_mF) (by unfold in64; decide) (show (lkM q.ms 2).map _ = _ by rw [h1]; rfl) (fun i v hv => at_ownL (vs := fxM y) (own_fd (List.mem_map_of_mem h3)) hv w1 hm)
def sB (al tol : Int) : SG := ⟨[⟨2, 0, ⟨al, 0, 0⟩⟩], tol, []⟩
theorem good_new {x : Fx} {al tol : Int} {pX mO : Nat} (h : MapC Tryz.prog 3 x.esF x.ckF (fMM [⟨⟨2, 0, ⟨al, 0, 0⟩⟩, pX, .slice none 0 0⟩])) (hal : 0 ≤ al ∧ al ≤ 1000000000000000) (ht : 0 ≤ tol ∧ tol ≤ 1000000) : Good x (sB al tol) ⟨mO, 0, #[], [⟨⟨2, 0, ⟨al, 0, 0⟩⟩, pX, .slice none 0 0⟩]⟩ where
 F := h
 O := by show MapC _ _ #[] 0 (fOL []); rw [fOL_nil]; exact MapC.empty
 fs := rfl
 ok := ⟨fun f hf => by rw [show f = ⟨2, 0, ⟨al, 0, 0⟩⟩ from List.mem_singleton.1 hf]; unfold fundOK; dsimp only; omega, ht, fun e he => (by cases he), List.Pairwise.nil⟩
def sS0 : SG := ⟨[⟨2, 0, ⟨10000, 0, 3000⟩⟩], 50, [(placedO (yO 3 1000), 1000)]⟩
def sS1 : SG := ⟨[⟨2, 0, ⟨10000, 0, 2100⟩⟩], 50, [(answO (placedO (yO 3 1000)) (yO 2 1050), 1000)]⟩
def sS2 : SG := ⟨[⟨2, 0, ⟨10000, 0, 2100⟩⟩], 50, [({ answO (placedO (yO 3 1000)) (yO 2 1050) with st := 1 }, 1000)]⟩
def sS3 : SG := ⟨[⟨2, 0, ⟨10000, 1100, 1050⟩⟩], 50, [({ answO (placedO (yO 3 1000)) (yO 2 1050) with st := 1, paid := 1 }, 1000)]⟩
def sS4 : SG := ⟨[⟨2, 0, ⟨10000, 1100, 0⟩⟩], 50, [({ answO (placedO (yO 3 1000)) (yO 2 1050) with st := -1, paid := 1, prom := 1 }, 1000)]⟩
theorem rdT_ans {n r : Int} (hn : 1 ≤ n ∧ n ≤ 9999) (hr : 0 ≤ r ∧ r ≤ 999999999) : rdT (ansT n r) = (yO n r, 0) := by
 obtain ⟨_, _, h3, _, h5⟩ := ans_facts hn hr
 unfold rdT; rw [if_neg (fun q => q h3)]; exact h5
theorem rdTI_bil {n r : Int} (hn : 1 ≤ n ∧ n ≤ 9999) (hr : 0 ≤ r ∧ r ≤ 999999999) : rdTI (bilT n r) = ([yB n r], 0) := by
 obtain ⟨_, _, h3, _, h5⟩ := bil_facts hn hr
 unfold rdTI; rw [if_neg (fun q => q h3)]; exact h5
theorem k_one (w : World) (hL : LD w) :
  Calls Tryz.prog 48 #[.int .i64 10000, .int .i64 50, .int .i64 1000] w fun e w' => ∃ z : Fx × Sq, e = .returned (.tuple #[.pointer (some ⟨z.1.pO, 0, none⟩), .pointer (some ⟨z.1.pF, 0, none⟩), .int .i64 0]) ∧ Good z.1 sS0 z.2 ∧ Mem w' ([] ++ (z.1.own 50 z.2 ++ [])) [(w, fun _ => True)] := by
 refine enter (vs := [.int .i64 10000, .int .i64 50, .int .i64 1000]) Tryz.func48 rfl Tryz.ntmps48 rfl ?_
 refine Zs (Zr ?_)
 refine Xa ?_
 refine Xa ?_
 refine Xa ?_
 refine Ze (Zt (Zs (Zr ?_)))
 refine x_own (τ := Nat) (fun pF => Value.pointer (some ⟨pF, 0, none⟩)) (fun _ => True) (fun pF => (pF, Obj.cells [Value.map none, .int .i64 0].toArray 125) :: []) rfl rfl rfl Tryz.func22 Zk rfl (fun w1 hw1 => (c_FNew w1).mono fun e w2 ⟨pF, h1, h2⟩ => ⟨pF, h1, h2.base (by simp), trivial, hw1.join h2⟩) fun pF _ => ?_
 refine Xa ?_
 refine Ze (Zt (Zs (Zr ?_)))
 refine Xm ?_
 refine Xm ?_
 refine x_turnf (τ := Nat × Nat × Array MapEntry × Nat) (v := Value.int .i64 0) (fun x => MapC Tryz.prog 3 x.2.2.1 x.2.2.2 (fMM [⟨⟨2, 0, ⟨10000, 0, 0⟩⟩, x.1, .slice none 0 0⟩])) (fun x => (x.2.1, Obj.map x.2.2.1 x.2.2.2) :: (pF, Obj.cells (fnC x.2.1 10000).toArray 125) :: (FB 130 [⟨⟨2, 0, ⟨10000, 0, 0⟩⟩, x.1, .slice none 0 0⟩] ++ [])) rfl rfl Tryz.func23 Zk rfl (fun w1 hw1 => g_FAdd (L := []) 10000 hw1 (by decide)) ?_
 rintro ⟨pX, mF, esF, ckF⟩ hF
 dsimp only at hF
 refine Ze (Zt (Zs (Zr ?_)))
 refine Xm ?_
 refine Xm ?_
 refine x_own (τ := Nat × Nat) (fun z => Value.pointer (some ⟨z.1, 0, none⟩)) (fun _ => True) (fun z => [] ++ ((⟨z.1, pF, mF, ckF, esF, 10000⟩ : Fx).own (min (max 50 0) 1000000) (⟨z.2, 0, #[], [⟨⟨2, 0, ⟨10000, 0, 0⟩⟩, pX, .slice none 0 0⟩]⟩ : Sq) ++ [])) rfl rfl rfl Tryz.func17 Zk rfl (fun w1 hw1 => (c_ONew 50 w1).mono fun e w2 ⟨z, h1, h2⟩ => ⟨z, h1, h2.base (by simp), trivial, hw1.join2 h2⟩) ?_
 rintro ⟨pO, mO⟩ _
 have hg0 := good_new (x := (⟨pO, pF, mF, ckF, esF, 10000⟩ : Fx)) (al := 10000) (tol := (min (max 50 0) 1000000)) (pX := pX) (mO := mO) hF (by decide) (by decide)
 refine Xa ?_
 refine Ze (Zt (Zs (Zr ?_)))
 refine Xm ?_
 refine Xm ?_
 refine Xm ?_
 refine Xv (v := Value.agg #[.int .i64 1, .int .i64 5]) rfl (v_buildL (cs := [.int .i64 1, .int .i64 5]) (places := [(0, 1), (1, 1)]) u23 zr23 Zk rfl rfl) ?_
 refine Xm ?_
 refine Xv (v := Value.agg (yO 3 1000).cells.toArray) rfl (v_buildL (cs := (yO 3 1000).cells) (places := [(0, 1), (1, 1), (2, 2), (4, 1), (5, 1), (6, 1), (7, 1), (8, 1)]) u25 zr25 Zk rfl rfl) ?_
 refine x_turnf (τ := Sq) (v := Value.int .i64 0) (fun q => Good (⟨pO, pF, mF, ckF, esF, 10000⟩ : Fx) sS0 q) (fun q => [] ++ ((⟨pO, pF, mF, ckF, esF, 10000⟩ : Fx).own 50 q ++ [])) rfl rfl Tryz.func12 Zk rfl (fun w1 hw1 => by
  have h := k_Place (l1 := []) (L := []) (x := (⟨pO, pF, mF, ckF, esF, 10000⟩ : Fx)) (q := (⟨mO, 0, #[], [⟨⟨2, 0, ⟨10000, 0, 0⟩⟩, pX, .slice none 0 0⟩]⟩ : Sq)) (s := sB 10000 50) hw1 hg0 (by simp) hL (yO 3 1000) (yO_A (by decide) (by decide)) (by decide)
  rw [show placeG (sB 10000 50) (yO 3 1000) = (0, sS0) from by decide] at h
  exact h) ?_
 intro q24 hg24
 refine Xa ?_
 refine Xa ?_
 refine Xa ?_
 refine Ze (Zt (w_ret ?_))
 exact ret3 rfl rfl rfl rfl (fun w' hm => ⟨((⟨pO, pF, mF, ckF, esF, 10000⟩ : Fx), q24), rfl, hg24, hm⟩)
set_option maxHeartbeats 4000000 in
theorem k_sane (w : World) (hL : LD w) :
  Calls Tryz.prog 10 #[] w fun e w' => e = .returned (.bool (true)) ∧ Later w w' := by
 refine enter (vs := []) Tryz.func10 rfl Tryz.ntmps10 rfl ?_
 refine Zs (Zr ?_)
 refine Xa ?_
 refine Ze (Zt (Zs (Zr ?_)))
 refine x_own (τ := Fx × Sq) (fun z => .tuple #[.pointer (some ⟨z.1.pO, 0, none⟩), .pointer (some ⟨z.1.pF, 0, none⟩), .int .i64 0]) (fun z => Good z.1 sS0 z.2) (fun z => [] ++ (z.1.own 50 z.2 ++ [])) rfl rfl rfl Tryz.func48 Zk rfl (fun w1 hw1 => (k_one w1 (hL.later (hw1.base (by simp)))).mono fun e w2 ⟨z, h1, h2, h3⟩ => ⟨z, h1, h3.base (by simp), h2, hw1.join h3⟩) ?_
 rintro ⟨x, q9⟩ hg9
 dsimp only at hg9
 refine Xm ?_
 refine Xv rfl (v_extract rfl rfl) ?_
 refine Xv rfl (v_extract rfl rfl) ?_
 refine Xv rfl (v_extract rfl rfl) ?_
 refine Xa ?_
 refine Xa ?_
 refine Xa ?_
 refine Ze (Zt (Zs (Zs (Zr ?_))))
 refine Xm ?_
 refine Xb rfl (v_pnil (o := some ⟨x.pO, 0, none⟩) u27 rfl rfl) fun b14 hb14 => ?_
 obtain rfl : b14 = false := hb14
 refine Xm ?_
 refine x_valg rfl rfl rfl rfl rfl (v_move rfl) ?_
 refine x_boolg rfl rfl rfl rfl rfl (v_pnil (o := some ⟨x.pF, 0, none⟩) u35 rfl rfl) fun b17 hb17 => ?_
 obtain rfl : b17 = false := hb17
 refine Xb rfl (v_or rfl rfl) fun b18 hb18 => ?_
 obtain rfl : b18 = false := hb18
 refine Ze (Zt ?_)
 refine w_cond rfl (fun hc18 => ?_) (fun hc18 => ?_)
 ·cases hc18
 skip
 refine w_skip (Zt (Zs (Zr ?_)))
 refine Xm ?_
 refine Xb rfl (v_eql rfl rfl) fun b20 hb20 => ?_
 obtain rfl : b20 = true := hb20
 refine Xm ?_
 refine x_valg rfl rfl rfl rfl rfl (v_move rfl) ?_
 refine x_callbg rfl rfl rfl rfl rfl Tryz.func27 Zk rfl (fun w1 hw1 => k_has (l1 := []) (L := []) (x := x) (q := q9) (s := sS0) hw1 hg9 (f := ⟨10000, 0, 3000⟩) rfl (3000) (0)) fun b23 hb23 => ?_
 obtain rfl : b23 = true := hb23.trans (by decide)
 refine Xb rfl (v_and rfl rfl) fun b24 hb24 => ?_
 obtain rfl : b24 = true := hb24
 refine Xa ?_
 refine Ze (Zt (Zs (Zr ?_)))
 refine Xm ?_
 refine x_callv rfl rfl rfl Tryz.func49 Zk rfl (fun w1 hw1 => c_ans 2 1050 w1 (by decide) (by decide)) ?_
 refine x_turnf (τ := Sq) (v := Value.int .i64 0) (fun q => Good x sS1 q) (fun q => [] ++ (x.own 50 q ++ [])) rfl rfl Tryz.func13 Zk rfl (fun w1 hw1 => by
  have h := k_Answer (l1 := []) (L := []) (x := x) (q := q9) (s := sS0) hw1 hg9 (by simp) hL (ansT 2 1050) (ans_facts (by decide) (by decide)).2.1 (ans_facts (by decide) (by decide)).2.2.2.1
  rw [rdT_ans (by decide) (by decide), show answerG sS0 (yO 2 1050) 0 = (0, sS1) from by decide] at h
  exact h) ?_
 intro q27 hg27
 refine Xb rfl (v_eql rfl rfl) fun b28 hb28 => ?_
 obtain rfl : b28 = true := hb28
 refine Xm ?_
 refine x_valg rfl rfl rfl rfl rfl (v_move rfl) ?_
 refine x_callbg rfl rfl rfl rfl rfl Tryz.func27 Zk rfl (fun w1 hw1 => k_has (l1 := []) (L := []) (x := x) (q := q27) (s := sS1) hw1 hg27 (f := ⟨10000, 0, 2100⟩) rfl (2100) (0)) fun b31 hb31 => ?_
 obtain rfl : b31 = true := hb31.trans (by decide)
 refine Xb rfl (v_and rfl rfl) fun b32 hb32 => ?_
 obtain rfl : b32 = true := hb32
 refine Xm ?_
 refine x_valg rfl rfl rfl rfl rfl (v_move rfl) ?_
 refine x_callvg rfl rfl rfl rfl rfl Tryz.func49 Zk rfl (fun w1 hw1 => c_ans 2 1051 w1 (by decide) (by decide)) ?_
 refine x_turng (τ := Sq) (v := Value.int .i64 61) (fun q => Good x sS1 q) (fun q => [] ++ (x.own 50 q ++ [])) rfl rfl rfl rfl Tryz.func13 Zk rfl (fun w1 hw1 => by
  have h := k_Answer (l1 := []) (L := []) (x := x) (q := q27) (s := sS1) hw1 hg27 (by simp) hL (ansT 2 1051) (ans_facts (by decide) (by decide)).2.1 (ans_facts (by decide) (by decide)).2.2.2.1
  rw [rdT_ans (by decide) (by decide), show answerG sS1 (yO 2 1051) 0 = (61, sS1) from by decide] at h
  exact h) ?_
 intro q36 hg36
 refine x_boolg rfl rfl rfl rfl rfl (v_eql rfl rfl) fun b37 hb37 => ?_
 obtain rfl : b37 = true := hb37
 refine Xb rfl (v_and rfl rfl) fun b38 hb38 => ?_
 obtain rfl : b38 = true := hb38
 refine Xa ?_
 refine Ze (Zt (Zs (Zr ?_)))
 refine Xm ?_
 refine x_turnf (τ := Sq) (v := Value.int .i64 0) (fun q => Good x sS2 q) (fun q => [] ++ (x.own 50 q ++ [])) rfl rfl Tryz.func14 Zk rfl (fun w1 hw1 => by
  have h := k_Receive (l1 := []) (L := []) (x := x) (q := q36) (s := sS1) hw1 hg36 (id := 7) (by unfold in64; decide) 1 (by unfold in64; decide)
  rw [show receiveG sS1 7 1 = (0, sS2) from by decide] at h
  exact h) ?_
 intro q40 hg40
 refine Xb rfl (v_eql rfl rfl) fun b41 hb41 => ?_
 obtain rfl : b41 = true := hb41
 refine Xm ?_
 refine x_valg rfl rfl rfl rfl rfl (v_move rfl) ?_
 refine x_callvg rfl rfl rfl rfl rfl Tryz.func50 Zk rfl (fun w1 hw1 => c_bil 2 1050 w1 (by decide) (by decide)) ?_
 refine x_turng (τ := Sq) (v := Value.int .i64 50) (fun q => Good x sS2 q) (fun q => [] ++ (x.own 50 q ++ [])) rfl rfl rfl rfl Tryz.func15 Zk rfl (fun w1 hw1 => by
  have h := k_Invoice (l1 := []) (L := []) (x := x) (q := q40) (s := sS2) hw1 hg40 (by simp) hL (bilT 2 1050) (bil_facts (by decide) (by decide)).2.1 (bil_facts (by decide) (by decide)).2.2.2.1
  rw [rdTI_bil (by decide) (by decide), show invoiceG sS2 [yB 2 1050] 0 = (50, sS2) from by decide] at h
  exact h) ?_
 intro q45 hg45
 refine x_boolg rfl rfl rfl rfl rfl (v_eql rfl rfl) fun b46 hb46 => ?_
 obtain rfl : b46 = true := hb46
 refine Xb rfl (v_and rfl rfl) fun b47 hb47 => ?_
 obtain rfl : b47 = true := hb47
 refine Xa ?_
 refine Ze (Zt (Zs (Zr ?_)))
 refine Xm ?_
 refine x_callv rfl rfl rfl Tryz.func50 Zk rfl (fun w1 hw1 => c_bil 1 1100 w1 (by decide) (by decide)) ?_
 refine x_turnf (τ := Sq) (v := Value.int .i64 0) (fun q => Good x sS3 q) (fun q => [] ++ (x.own 50 q ++ [])) rfl rfl Tryz.func15 Zk rfl (fun w1 hw1 => by
  have h := k_Invoice (l1 := []) (L := []) (x := x) (q := q45) (s := sS2) hw1 hg45 (by simp) hL (bilT 1 1100) (bil_facts (by decide) (by decide)).2.1 (bil_facts (by decide) (by decide)).2.2.2.1
  rw [rdTI_bil (by decide) (by decide), show invoiceG sS2 [yB 1 1100] 0 = (0, sS3) from by decide] at h
  exact h) ?_
 intro q50 hg50
 refine Xb rfl (v_eql rfl rfl) fun b51 hb51 => ?_
 obtain rfl : b51 = true := hb51
 refine Xm ?_
 refine x_valg rfl rfl rfl rfl rfl (v_move rfl) ?_
 refine x_callbg rfl rfl rfl rfl rfl Tryz.func27 Zk rfl (fun w1 hw1 => k_has (l1 := []) (L := []) (x := x) (q := q50) (s := sS3) hw1 hg50 (f := ⟨10000, 1100, 1050⟩) rfl (1050) (1100)) fun b54 hb54 => ?_
 obtain rfl : b54 = true := hb54.trans (by decide)
 refine Xb rfl (v_and rfl rfl) fun b55 hb55 => ?_
 obtain rfl : b55 = true := hb55
 refine Xa ?_
 refine Ze (Zt (Zs (Zr ?_)))
 refine Xm ?_
 refine Xm ?_
 refine x_valg rfl rfl rfl rfl rfl (v_move rfl) ?_
 refine Xb rfl (v_and rfl rfl) fun b59 hb59 => ?_
 obtain rfl : b59 = true := hb59
 refine Xm ?_
 refine x_valg rfl rfl rfl rfl rfl (v_move rfl) ?_
 refine Xb rfl (v_and rfl rfl) fun b62 hb62 => ?_
 obtain rfl : b62 = true := hb62
 refine Xm ?_
 refine x_valg rfl rfl rfl rfl rfl (v_move rfl) ?_
 refine Xb rfl (v_and rfl rfl) fun b65 hb65 => ?_
 obtain rfl : b65 = true := hb65
 refine Xm ?_
 refine x_valg rfl rfl rfl rfl rfl (v_move rfl) ?_
 refine x_turng (τ := Sq) (v := Value.int .i64 0) (fun q => Good x sS4 q) (fun q => [] ++ (x.own 50 q ++ [])) rfl rfl rfl rfl Tryz.func16 Zk rfl (fun w1 hw1 => by
  have h := k_Cancel (l1 := []) (L := []) (x := x) (q := q50) (s := sS3) hw1 hg50 (id := 7) (by unfold in64; decide)
  rw [show cancelG sS3 7 = (0, sS4) from by decide] at h
  exact h) ?_
 intro q68 hg68
 refine x_boolg rfl rfl rfl rfl rfl (v_eql rfl rfl) fun b69 hb69 => ?_
 obtain rfl : b69 = true := hb69
 refine Xb rfl (v_and rfl rfl) fun b70 hb70 => ?_
 obtain rfl : b70 = true := hb70
 refine Xm ?_
 refine x_valg rfl rfl rfl rfl rfl (v_move rfl) ?_
 refine x_callbg rfl rfl rfl rfl rfl Tryz.func27 Zk rfl (fun w1 hw1 => k_has (l1 := []) (L := []) (x := x) (q := q68) (s := sS4) hw1 hg68 (f := ⟨10000, 1100, 0⟩) rfl (0) (1100)) fun b73 hb73 => ?_
 obtain rfl : b73 = true := hb73.trans (by decide)
 refine Xb rfl (v_and rfl rfl) fun b74 hb74 => ?_
 obtain rfl : b74 = true := hb74
 refine Xa ?_
 refine Ze (Zt (w_ret ?_))
 exact ret1 rfl rfl (fun w' hm => ⟨rfl, hm.base (by simp)⟩)
open Go.RowKit Go.PK
theorem apO : (Tryz.prog.info? 25).map (fun j => (j.zero, j.size, j.bytes)) = some (some (.agg #[.int .i64 0, .int .i64 0, .int .i64 0, .int .i64 0, .int .i64 0, .int .i64 0, .int .i64 0, .int .i64 0, .int .i64 0]), 9, 72) := by kernel_rfl
theorem srt_W (sp en : Int) : srtF (fsW sp en) := List.pairwise_singleton ..
theorem fg_W {sp en : Int} (h : 0 ≤ sp ∧ 0 ≤ en ∧ sp + en ≤ 100000) : ∀ f ∈ fsW sp en, fgN f := fun f hf => by
 rw [show f = ⟨2, 0, ⟨100000, sp, en⟩⟩ from List.mem_singleton.1 hf]
 unfold fgN fundOK
 dsimp only
 omega
set_option maxHeartbeats 4000000 in
theorem lawWhole {A0 : Option Addr} {c0 : Nat} {cs : List Int} {bad : Int} (w : World) (hcs : sliceRd (tyK .u8) (fun _ => True) w (.slice A0 cs.length c0) cs) (hbad : 0 ≤ bad ∧ bad ≤ 255) (hL : LD w) :
  Calls Tryz.prog 4 #[.slice A0 cs.length c0, .int .u8 bad] w fun e w' => e = .returned (.bool (true)) ∧ Later w w' := by
 refine enter (vs := [.slice A0 cs.length c0, .int .u8 bad]) Tryz.func4 rfl Tryz.ntmps4 rfl ?_
 refine Zs (Zr ?_)
 refine Xa ?_
 refine Ze (Zt (Zs (Zr ?_)))
 refine x_callb rfl rfl rfl Tryz.func10 Zk rfl (fun w1 hw1 => k_sane w1 (hL.later (hw1.base (by simp)))) fun b28 hb28 => ?_
 obtain rfl : b28 = true := hb28
 refine Xa ?_
 refine Ze (Zt (Zs (Zr ?_)))
 refine x_own (τ := Nat) (fun pF => Value.pointer (some ⟨pF, 0, none⟩)) (fun _ => True) (fun pF => (pF, Obj.cells [Value.map none, .int .i64 0].toArray 125) :: []) rfl rfl rfl Tryz.func22 Zk rfl (fun w1 hw1 => (c_FNew w1).mono fun e w2 ⟨pF, h1, h2⟩ => ⟨pF, h1, h2.base (by simp), trivial, hw1.join h2⟩) fun pF _ => ?_
 refine Xa ?_
 refine Ze (Zt (Zs (Zr ?_)))
 refine Xm ?_
 refine x_turnf (τ := Nat × Nat × Array MapEntry × Nat) (v := Value.int .i64 0) (fun x => MapC Tryz.prog 3 x.2.2.1 x.2.2.2 (fMM [⟨⟨2, 0, ⟨100000, 0, 0⟩⟩, x.1, .slice none 0 0⟩])) (fun x => (x.2.1, Obj.map x.2.2.1 x.2.2.2) :: (pF, Obj.cells (fnC x.2.1 100000).toArray 125) :: (FB 130 [⟨⟨2, 0, ⟨100000, 0, 0⟩⟩, x.1, .slice none 0 0⟩] ++ [])) rfl rfl Tryz.func23 Zk rfl (fun w1 hw1 => g_FAdd (L := []) 100000 hw1 (by decide)) ?_
 rintro ⟨pX, mF, esF, ckF⟩ hF
 dsimp only at hF
 refine Ze (Zt (Zs (Zr ?_)))
 refine Xm ?_
 refine x_own (τ := Nat × Nat) (fun z => Value.pointer (some ⟨z.1, 0, none⟩)) (fun _ => True) (fun z => [] ++ ((⟨z.1, pF, mF, ckF, esF, 100000⟩ : Fx).own (min (max 0 0) 1000000) (⟨z.2, 0, #[], [⟨⟨2, 0, ⟨100000, 0, 0⟩⟩, pX, .slice none 0 0⟩]⟩ : Sq) ++ [])) rfl rfl rfl Tryz.func17 Zk rfl (fun w1 hw1 => (c_ONew 0 w1).mono fun e w2 ⟨z, h1, h2⟩ => ⟨z, h1, h2.base (by simp), trivial, hw1.join2 h2⟩) ?_
 rintro ⟨pO, mO⟩ _
 have hg0 := good_new (x := (⟨pO, pF, mF, ckF, esF, 100000⟩ : Fx)) (al := 100000) (tol := (min (max 0 0) 1000000)) (pX := pX) (mO := mO) hF (by decide) (by decide)
 have e0 : sB 100000 (min (max 0 0) 1000000) = sW 0 := by decide
 rw [e0] at hg0
 refine Xa ?_
 refine Ze (Zt (Zs (Zs (Zr ?_))))
 refine Xm ?_
 refine Xb rfl (v_pnil (o := some ⟨pO, 0, none⟩) u27 rfl rfl) fun b35 hb35 => ?_
 obtain rfl : b35 = false := hb35
 refine Ze (Zt ?_)
 refine w_cond rfl (fun hc35 => ?_) (fun hc35 => ?_)
 ·cases hc35
 skip
 refine w_skip (Zt (Zs (Zs (Zr ?_))))
 refine Xa ?_
 refine Ze (Zt (w_block ?_))
 refine w_loop (σ := Nat × Sq) (fun z => z.1 ≤ 3 ∧ Good (⟨pO, pF, mF, ckF, esF, 100000⟩ : Fx) (sW z.1) z.2) (fun z => [(0, Value.slice A0 cs.length c0), (1, Value.int .u8 bad), (5, Value.bool true), (6, Value.pointer (some ⟨pF, 0, none⟩)), (7, Value.pointer (some ⟨pO, 0, none⟩)), (8, Value.int .i64 ((z.1 + 1 : Nat) : Int))]) (fun z => [] ++ ((⟨pO, pF, mF, ckF, esF, 100000⟩ : Fx).own 0 z.2 ++ [])) (fun z => [(w, fun _ => True)]) (fun z => 3 - z.1) ((0, (⟨mO, 0, #[], [⟨⟨2, 0, ⟨100000, 0, 0⟩⟩, pX, .slice none 0 0⟩]⟩ : Sq))) (⟨Nat.zero_le _, hg0⟩) (l_start Zu (fun _ h => h)) ?_
 rintro ⟨n, q⟩ ⟨hn3, hg⟩
 refine w_state ([(0, Value.slice A0 cs.length c0), (1, Value.int .u8 bad), (5, Value.bool true), (6, Value.pointer (some ⟨pF, 0, none⟩)), (7, Value.pointer (some ⟨pO, 0, none⟩)), (8, Value.int .i64 ((n + 1 : Nat) : Int))]) ([] ++ ((⟨pO, pF, mF, ckF, esF, 100000⟩ : Fx).own 0 q ++ [])) ([(w, fun _ => True)]) ?_
 dsimp only at hn3 hg
 refine Zs (Zs (Zr ?_))
 refine Xm ?_
 refine Xb rfl (v_lss rfl rfl) fun b37 hb37 => ?_
 refine Ze (Zt ?_)
 refine w_cond rfl (fun hc37 => ?_) (fun hc37 => ?_)
 ·simp only [hb37, Qz, ne_eq] at hc37
  have hst := sW_step ⟨n, by omega⟩
  dsimp only at hst
  refine w_skip (Zt (Zs (w_block (Zs (Zr ?_)))))
  refine Xm ?_
  refine Xm ?_
  refine Xm ?_
  refine Xv (v := Value.agg #[.int .i64 0, .int .i64 ((n + 1 : Nat) : Int)]) rfl (v_buildL (cs := [.int .i64 0, .int .i64 ((n + 1 : Nat) : Int)]) (places := [(0, 1), (1, 1)]) u23 zr23 Zk rfl rfl) ?_
  refine Xm ?_
  refine Xv rfl (v_muli rfl rfl rfl Zo) ?_
  refine Xv (v := Value.agg (reqW ((n + 1 : Nat) : Int)).cells.toArray) rfl (v_buildL (cs := (reqW ((n + 1 : Nat) : Int)).cells) (places := [(0, 1), (1, 1), (2, 2), (4, 1), (5, 1), (6, 1), (7, 1), (8, 1)]) u25 zr25 Zk rfl rfl) ?_
  refine x_turnf (τ := Sq) (v := Value.int .i64 0) (fun q => Good (⟨pO, pF, mF, ckF, esF, 100000⟩ : Fx) (placeG (sW n) (reqW ((n + 1 : Nat) : Int))).2 q) (fun q => [] ++ ((⟨pO, pF, mF, ckF, esF, 100000⟩ : Fx).own 0 q ++ [])) rfl rfl Tryz.func12 Zk rfl (fun w1 hw1 => by
   have h := k_Place (l1 := []) (L := []) (x := (⟨pO, pF, mF, ckF, esF, 100000⟩ : Fx)) (q := q) (s := sW n) hw1 hg (by simp) hL (reqW ((n + 1 : Nat) : Int)) (reqW_A (by omega)) (sW_len n)
   rw [show placeG (sW n) (reqW ((n + 1 : Nat) : Int)) = (0, (placeG (sW n) (reqW ((n + 1 : Nat) : Int))).2) from Prod.ext hst.1 rfl] at h
   exact h) ?_
  intro q47 hg47
  refine Xb rfl (v_neq rfl rfl) fun b48 hb48 => ?_
  obtain rfl : b48 = false := hb48.trans (decide_eq_false (fun q => q rfl))
  refine Xm ?_
  refine x_valg rfl rfl rfl rfl rfl (v_move rfl) ?_
  refine x_valg rfl rfl rfl rfl rfl (v_move rfl) ?_
  have htol : (placeG (sW n) (reqW ((n + 1 : Nat) : Int))).2.tol = 0 := by
   unfold placeG; split; (· rfl); split; (· rfl); split <;> rfl
  refine x_turng (τ := Sq) (v := Value.int .i64 0) (fun q => Good (⟨pO, pF, mF, ckF, esF, 100000⟩ : Fx) (sW (n + 1)) q) (fun q => [] ++ ((⟨pO, pF, mF, ckF, esF, 100000⟩ : Fx).own 0 q ++ [])) rfl rfl rfl rfl Tryz.func14 Zk rfl (fun w1 hw1 => by
   have h := k_Receive (l1 := []) (L := []) (x := (⟨pO, pF, mF, ckF, esF, 100000⟩ : Fx)) (q := q47) (s := (placeG (sW n) (reqW ((n + 1 : Nat) : Int))).2) (hw1.to (by rw [htol])) hg47 (id := ((n + 1 : Nat) : Int)) (by unfold in64; omega) 5 (by unfold in64; decide)
   rw [hst.2, htol] at h
   exact h) ?_
  intro q52 hg52
  refine x_boolg rfl rfl rfl rfl rfl (v_neq rfl rfl) fun b53 hb53 => ?_
  obtain rfl : b53 = false := hb53.trans (decide_eq_false (fun q => q rfl))
  refine Xb rfl (v_or rfl rfl) fun b54 hb54 => ?_
  obtain rfl : b54 = false := hb54
  refine Ze (Zt ?_)
  refine w_cond rfl (fun hc54 => ?_) (fun hc54 => ?_)
  ·cases hc54
  skip
  refine w_skip (b_norm (Zt (Zr ?_)))
  refine Xm ?_
  refine Xv rfl (v_addi rfl rfl rfl Zo) ?_
  refine Xa ?_
  refine Ze ?_
  exact l_norm (n + 1, q52) ⟨by show n + 1 ≤ 3; omega, hg52⟩ (by simp only; omega) Zu (fun _ h => h)
 simp only [hb37, Qz, ne_eq] at hc37
 obtain rfl : n = 3 := by omega
 rw [sW_3] at hg
 refine w_exit ?_
 refine t_exit ?_
 refine t_exit ?_
 refine b_hit ?_
 refine Zt (Zs (Zr ?_))
 refine Xa ?_
 refine Ze (Zt (Zs (Zr ?_)))
 refine x_alloc rfl rfl rfl zr53 ?_
 intro p10
 refine Ze (Zt (Zs (Zr ?_)))
 refine Xa ?_
 refine Ze (Zt (Zs (Zs (Zr ?_))))
 refine Xa ?_
 refine Ze (Zt (w_block ?_))
 refine w_loop (σ := Nat × RowS) (fun z => z.1 ≤ cs.length ∧ z.1 ≤ 6 ∧ rowOK 9 z.2 z.1 (ordsC (linesW cs z.1))) (fun z => [(0, Value.slice A0 cs.length c0), (1, Value.int .u8 bad), (5, Value.bool true), (6, Value.pointer (some ⟨pF, 0, none⟩)), (7, Value.pointer (some ⟨pO, 0, none⟩)), (9, rowV z.2 z.1), (10, Value.pointer (some ⟨p10, 0, none⟩)), (11, Value.int .i64 (totalP (linesW cs z.1))), (12, Value.int .i64 (z.1 : Nat))]) (fun z => (p10, Obj.cells (sumC (linesW cs z.1)).toArray 53) :: ([] ++ ((⟨pO, pF, mF, ckF, esF, 100000⟩ : Fx).own 0 q ++ rowO 25 z.2))) (fun z => [(w, fun _ => True)]) (fun z => 6 - z.1) ((0, none)) (⟨Nat.zero_le _, Nat.zero_le _, rowOK_nil⟩) (l_start Zu (fun _ h => h)) ?_
 rintro ⟨k, R⟩ ⟨hkc, hk6, hR⟩
 refine w_state ([(0, Value.slice A0 cs.length c0), (1, Value.int .u8 bad), (5, Value.bool true), (6, Value.pointer (some ⟨pF, 0, none⟩)), (7, Value.pointer (some ⟨pO, 0, none⟩)), (9, rowV R k), (10, Value.pointer (some ⟨p10, 0, none⟩)), (11, Value.int .i64 (totalP (linesW cs k))), (12, Value.int .i64 (k : Nat))]) ((p10, Obj.cells (sumC (linesW cs k)).toArray 53) :: ([] ++ ((⟨pO, pF, mF, ckF, esF, 100000⟩ : Fx).own 0 q ++ rowO 25 R))) ([(w, fun _ => True)]) ?_
 dsimp only at hkc hk6 hR
 refine Zs (Zs (Zr ?_))
 refine Xm ?_
 refine Xm ?_
 refine Xv rfl (v_len_slice u49 rfl) ?_
 refine Xb rfl (v_lss rfl rfl) fun b58 hb58 => ?_
 refine Xm ?_
 refine Xg ?_
 refine Xj rfl rfl rfl (fun hg0 => by subst hg0; (try simp only [Qy]); exact v_lss rfl rfl) fun b61 hb61 => ?_
 refine Xb rfl (v_and rfl rfl) fun b62 hb62 => ?_
 refine Ze (Zt ?_)
 refine w_cond rfl (fun hc62 => ?_) (fun hc62 => ?_)
 ·simp only [hb62, hb61, hb58, Qz, ne_eq] at hc62
  have hkl : k < cs.length := by omega
  obtain ⟨ba, bo, hA0, hD0, hc0, hcr⟩ := k_at hcs hkl
  obtain ⟨u1, u2⟩ := u8_rng hcr
  have h66 : ((k : Nat) : Int).tmod 3 = ((k % 3 : Nat) : Int) := by rw [Int.tmod_eq_emod_of_nonneg (by omega)]; omega

  refine w_skip (Zt (Zs (w_block (Zs (Zr ?_)))))
  refine Xm ?_
  refine Xv (v := Value.int .i64 ((k % 3 : Nat) : Int)) rfl (by rw [← h66]; exact v_rem rfl rfl (by decide)) ?_
  refine Xv rfl (v_addi rfl rfl rfl Zo) ?_
  refine Xm ?_
  refine Xv (v := Value.int .i64 ((k % 3 : Nat) : Int)) rfl (by rw [← h66]; exact v_rem rfl rfl (by decide)) ?_
  refine Xv rfl (v_addi rfl rfl rfl Zo) ?_
  refine Xv (v := Value.agg #[.int .i64 0, .int .i64 (1 + ((k % 3 : Nat) : Int))]) rfl (v_buildL (cs := [.int .i64 0, .int .i64 (1 + ((k % 3 : Nat) : Int))]) (places := [(0, 1), (1, 1)]) u23 zr23 Zk rfl rfl) ?_
  refine Xm ?_
  refine Xm ?_
  refine Xv rfl (v_indexAddr u49 sz5 (congrArg (fun A => some (Value.slice A cs.length c0)) hA0) rfl Zo rfl) ?_
  refine Xv rfl (v_load u5 rfl rfl (at_ro (.head _) trivial (by rw [Nat.mul_one]; exact hc0))) ?_
  refine Xv (v := Value.int .u8 (cs[k] % 4)) rfl (by rw [← Int.tmod_eq_emod_of_nonneg (b := 4) u1]; exact v_rem rfl rfl (by decide)) ?_
  refine Xv (v := Value.int .i64 (cs[k] % 4)) rfl (v_conv64 u5 u3 rfl (by omega)) ?_
  refine Xv rfl (v_addi rfl rfl rfl Zo) ?_
  refine Xm ?_
  refine Xv (v := Value.int .i64 ((k % 3 : Nat) : Int)) rfl (by rw [← h66]; exact v_rem rfl rfl (by decide)) ?_
  refine Xv rfl (v_muli rfl rfl rfl Zo) ?_
  refine Xv rfl (v_addi rfl rfl rfl Zo) ?_
  refine Xv (v := Value.agg (lnW k cs[k]).cells.toArray) rfl (v_buildL (cs := (lnW k cs[k]).cells) (places := [(0, 1), (1, 1), (2, 2), (4, 1), (5, 1), (6, 1), (7, 1), (8, 1)]) u25 zr25 Zk rfl rfl) ?_
  refine x_alloc rfl rfl rfl zr25 ?_
  intro p13
  refine x_store0 [] rfl rfl rfl rfl sz25 rfl rfl ?_
  refine Ze (Zt (Zs ?_))
  refine rg_draw 10 [(true, 0), (true, 1), (true, 2), (true, 3), (true, 4), (true, 5), (true, 6), (true, 7), (true, 8), (true, 9)] Zk Zk ?_
  refine Xv rfl (v_fieldAddr (off' := 0) u25 rfl sz3 (by decide) rfl rfl) ?_
  refine Xv (v := Value.int .i64 (((1 + k % 3) : Nat) : Int)) rfl (v_load u3 rfl rfl (at_ownL (vs := (lnW k cs[k]).cells) (.head _) (by show some (Value.int .i64 (1 + ((k % 3 : Nat) : Int))) = _; rw [show (1 + ((k % 3 : Nat) : Int)) = ((1 + k % 3 : Nat) : Int) by omega]))) ?_
  refine Xv rfl (v_fieldAddr (off' := 0) u25 rfl sz3 (by decide) rfl rfl) ?_
  refine Xv (v := Value.int .i64 (((1 + k % 3) : Nat) : Int)) rfl (v_load u3 rfl rfl (at_ownL (vs := (lnW k cs[k]).cells) (.head _) (by show some (Value.int .i64 (1 + ((k % 3 : Nat) : Int))) = _; rw [show (1 + ((k % 3 : Nat) : Int)) = ((1 + k % 3 : Nat) : Int) by omega]))) ?_
  refine Xv rfl (v_indexArr u53 sz3 rfl rfl (by omega) rfl) ?_
  refine Xv rfl (v_load u3 rfl rfl (at_ownL (vs := sumC (linesW cs k)) (.tail _ (.head _)) (sumC_at (by omega)))) ?_
  refine Xv rfl (v_fieldAddr (off' := 4) u25 rfl sz3 (by decide) rfl rfl) ?_
  refine Xv rfl (Vl u3 rfl) ?_
  refine Xv rfl (v_addi (c := sumW (linesW cs k) (((1 + k % 3) : Nat) : Int) + (lnW k cs[k]).copies) rfl rfl rfl (by have := sumW_nn (linesW_K cs k) (((1 + k % 3) : Nat) : Int); rw [linesW_len] at this; show _ ≤ _ + (1 + cs[k] % 4) ∧ _ + (1 + cs[k] % 4) ≤ _; omega)) ?_
  refine Xv rfl (v_indexArr u53 sz3 rfl rfl (by omega) rfl) ?_
  refine x_store (cs := sumC (linesW cs k)) (off := 0 + (1 + k % 3) * 1) (e := 53) (l2 := [] ++ ((⟨pO, pF, mF, ckF, esF, 100000⟩ : Fx).own 0 q ++ rowO 25 R)) [(p13, Obj.cells (lnW k cs[k]).cells.toArray 25)] rfl rfl rfl rfl sz3 rfl (by show _ ≤ 4; omega) ?_
  refine Ze (Zt (Zs ?_))
  refine x_memW (own' := (p13, Obj.cells (lnW k cs[k]).cells.toArray 25) :: (p10, Obj.cells (sumC (linesW cs (k + 1))).toArray 53) :: ([] ++ ((⟨pO, pF, mF, ckF, esF, 100000⟩ : Fx).own 0 q ++ rowO 25 R))) (ro' := [(w, fun _ => True)]) (fun w1 h => h.to (by rw [sum_put (ls := (linesW cs k)) (o := (lnW k cs[k])) (i := (1 + k % 3)) (by show (1 + ((k % 3 : Nat) : Int)) = _; omega) (by omega), ← lnW_snoc hkl]; rfl)) ?_
  refine Zr ?_
  refine Xm ?_
  refine Xv rfl (v_fieldAddr (off' := 4) u25 rfl sz3 (by decide) rfl rfl) ?_
  refine Xv rfl (Vl u3 rfl) ?_
  refine Xv rfl (v_fieldAddr (off' := 5) u25 rfl sz3 (by decide) rfl rfl) ?_
  refine Xv rfl (Vl u3 rfl) ?_
  refine Xv rfl (v_muli rfl rfl rfl (by show _ ≤ (1 + cs[k] % 4) * (10 + 10 * ((k % 3 : Nat) : Int)) ∧ (1 + cs[k] % 4) * (10 + 10 * ((k % 3 : Nat) : Int)) ≤ _; have := mul9 (a := 4) (b := 30) (j := 1 + cs[k] % 4) (m := 10 + 10 * ((k % 3 : Nat) : Int)) (by omega) (by omega); omega)) ?_
  have htt : totalP (linesW cs k) + (lnW k cs[k]).copies * (lnW k cs[k]).price = totalP (linesW cs (k + 1)) := by rw [lnW_snoc hkl, totalP_snoc]
  refine Xv rfl (v_addi (c := totalP (linesW cs (k + 1))) rfl rfl htt (by have t1 := total_sum (linesW_K cs (k + 1)); have n1 := sumW_nn (linesW_K cs (k + 1)) 1; have n2 := sumW_nn (linesW_K cs (k + 1)) 2; have n3 := sumW_nn (linesW_K cs (k + 1)) 3; rw [linesW_len] at n1 n2 n3; omega)) ?_
  refine Xa ?_
  refine Ze (Zt (Zr ?_))
  refine Xm ?_
  refine Xv rfl (v_load_blk u25 rfl rfl (by first | exact .head _ | exact .tail _ (.head _) | exact .tail _ (.tail _ (.head _)) | (repeat (first | exact List.Mem.head _ | apply List.Mem.tail | apply List.mem_append_right))) (by exact sz25)) ?_
  refine x_buildSliceL (cs := (lnW k cs[k]).cells) rfl rfl rfl u52 sz25 zr25 rfl rfl rfl ?_
  intro p103
  refine x_append (e := 25) ((p103, Obj.cells (lnW k cs[k]).cells.toArray 25 (0, 0)) :: (p13, Obj.cells (lnW k cs[k]).cells.toArray 25) :: (p10, Obj.cells (sumC (linesW cs (k + 1))).toArray 53) :: (⟨pO, pF, mF, ckF, esF, 100000⟩ : Fx).own 0 q) (l2 := []) R (len := k) (xs := ordsC (linesW cs k)) rfl rfl rfl rfl (by simp) hR u52 apO rfl rfl (m := 1) (news := (lnW k cs[k]).cells) (fun i hi => at_ownL (vs := (lnW k cs[k]).cells) (.head _) (by rw [Nat.zero_add]; exact List.getElem?_eq_getElem hi)) rfl Zx (by omega) fun R' hR' => ?_
  refine Xa ?_
  refine Ze (b_norm (Zt (Zr ?_)))
  refine Xm ?_
  refine Xv rfl (v_addi rfl rfl rfl Zo) ?_
  refine Xa ?_
  refine Ze ?_
  have hR2 : rowOK 9 R' (k + 1) (ordsC (linesW cs (k + 1))) := by
   rw [lnW_snoc hkl, ordsC_app]; exact hR'
  exact l_norm (k + 1, R') ⟨hkl, by show k + 1 ≤ 6; omega, hR2⟩ (by simp only; omega) Zu (fun w1 h => (h.to (show _ = ((p103, Obj.cells (lnW k cs[k]).cells.toArray 25 (0, 0)) :: (p13, Obj.cells (lnW k cs[k]).cells.toArray 25) :: (p10, Obj.cells (sumC (linesW cs (k + 1))).toArray 53) :: ([] ++ ((⟨pO, pF, mF, ckF, esF, 100000⟩ : Fx).own 0 q ++ rowO 25 R'))) by simp)).less ((List.sublist_cons_self _ _).trans (List.sublist_cons_self _ _)) (fun _ h => h))
 simp only [hb62, hb61, hb58, Qz, ne_eq] at hc62
 refine w_exit ?_
 refine t_exit ?_
 refine t_exit ?_
 refine b_hit ?_
 refine Zt (Zs (Zr ?_))
 refine Xm ?_
 refine Xv rfl (v_len_slice u52 rfl) ?_
 refine Xb rfl (v_gtr rfl rfl) fun b107 hb107 => ?_
 refine Xm ?_
 refine Xi rfl rfl rfl (fun hg0 => by subst hg0; (try simp only [Qy]); exact v_indexArr (j := 1) (off' := 1) u53 sz3 rfl rfl Zo rfl) ?_
 refine Xi rfl rfl rfl (fun hg0 => by subst hg0; (try simp only [Qy]); exact Vl u3 rfl) ?_
 refine Xj rfl rfl rfl (fun hg0 => by subst hg0; (try simp only [Qy]); exact v_leq rfl rfl) fun b111 hb111 => ?_
 refine Xb rfl (v_and rfl rfl) fun b112 hb112 => ?_
 refine Xm ?_
 refine Xi rfl rfl rfl (fun hg0 => by subst hg0; (try simp only [Qy]); exact v_indexArr (j := 2) (off' := 2) u53 sz3 rfl rfl Zo rfl) ?_
 refine Xi rfl rfl rfl (fun hg0 => by subst hg0; (try simp only [Qy]); exact Vl u3 rfl) ?_
 refine Xj rfl rfl rfl (fun hg0 => by subst hg0; (try simp only [Qy]); exact v_leq rfl rfl) fun b116 hb116 => ?_
 refine Xb rfl (v_and rfl rfl) fun b117 hb117 => ?_
 refine Xm ?_
 refine Xi rfl rfl rfl (fun hg0 => by subst hg0; (try simp only [Qy]); exact v_indexArr (j := 3) (off' := 3) u53 sz3 rfl rfl Zo rfl) ?_
 refine Xi rfl rfl rfl (fun hg0 => by subst hg0; (try simp only [Qy]); exact Vl u3 rfl) ?_
 refine Xj rfl rfl rfl (fun hg0 => by subst hg0; (try simp only [Qy]); exact v_leq rfl rfl) fun b121 hb121 => ?_
 refine Xb rfl (v_and rfl rfl) fun b122 hb122 => ?_
 refine Xa ?_
 refine Ze (Zt (Zs ?_))
 have hW : (b122 = true) ↔ (0 < (linesW cs k).length ∧ sumW (linesW cs k) 1 ≤ 5 ∧ sumW (linesW cs k) 2 ≤ 5 ∧ sumW (linesW cs k) 3 ≤ 5) := by
  rw [linesW_len, hb122, hb121, hb117, hb116, hb112, hb111, hb107]
  simp only [decide_eq_true_eq, Bool.and_eq_true, and_assoc]
  constructor <;> (intro h; refine ⟨by omega, h.2⟩)
 refine Zr ?_
 refine x_buildSlice0 rfl rfl rfl u52 sz25 ?_
 intro p123
 refine Xm ?_
 refine x_append_any (e := 25) (m := k) (c2 := rowC R) (ao := rowA R) [] (l2 := (p10, Obj.cells (sumC (linesW cs k)).toArray 53) :: ([] ++ ((⟨pO, pF, mF, ckF, esF, 100000⟩ : Fx).own 0 q ++ rowO 25 R))) (some (p123, [], 0)) (len := 0) (xs := []) (news := ordsC (linesW cs k)) rfl rfl rfl rfl rfl ⟨rfl, Nat.le_refl _, Nat.zero_le _, rfl, rfl⟩ u52 apO rfl (by rw [ordsC_len, linesW_len]) (fun ha => by have := rec_none ordE_rec (by decide) (show rowOK 9 R k (recC PK.Ord.cells (linesW cs k)) from hR) ha; rwa [linesW_len] at this) (fun w1 hw1 a ha j u hu => rec_all_at (e := 25) ordE_rec (show rowOK 9 R k (recC PK.Ord.cells (linesW cs k)) from hR) hw1 (fun p hp => by simp [hp]) ha hu) (ordsC_one _) Zx (by omega) fun R2 hR2 => ?_
 rw [Nat.zero_add k] at hR2 ⊢
 rw [List.nil_append] at hR2
 refine Xa ?_
 refine Ze (Zt (Zs ?_))
 refine x_memW (own' := (rowO 25 R2 ++ [(p10, Obj.cells (sumC (linesW cs k)).toArray 53)]) ++ ((⟨pO, pF, mF, ckF, esF, 100000⟩ : Fx).own 0 q ++ rowO 25 R)) (ro' := [(w, fun _ => True)]) (fun w1 h => h.to (by simp)) ?_
 obtain ⟨E1, hE1⟩ : ∃ E : ByteArray, (⟨(intsG (encL s3W.L)).toArray⟩ : ByteArray) = E := ⟨_, rfl⟩
 obtain ⟨E2, hE2⟩ : ∃ E : ByteArray, (⟨(intsG (encF s3W.fs)).toArray⟩ : ByteArray) = E := ⟨_, rfl⟩
 refine Zr ?_
 refine Xm ?_
 refine x_callv (v := Value.string E1) rfl rfl rfl Tryz.func18 Zk rfl (fun w1 hw1 => by
  have h := k_EncO (l1 := (rowO 25 R2 ++ [(p10, Obj.cells (sumC (linesW cs k)).toArray 53)])) (L := rowO 25 R) (x := (⟨pO, pF, mF, ckF, esF, 100000⟩ : Fx)) (q := q) (s := s3W) hw1 hg (by decide)
  rw [hE1] at h
  exact h) ?_
 refine Xa ?_
 refine Ze (Zt (Zs (Zr ?_)))
 refine Xm ?_
 refine x_callv (v := Value.string E2) rfl rfl rfl Tryz.func24 Zk rfl (fun w1 hw1 => by
  have h := k_EncF (l1 := (rowO 25 R2 ++ [(p10, Obj.cells (sumC (linesW cs k)).toArray 53)])) (L := rowO 25 R) (x := (⟨pO, pF, mF, ckF, esF, 100000⟩ : Fx)) (q := q) (s := s3W) hw1 hg (by decide) (srt_W 0 540) (fg_W (by decide))
  rw [hE2] at h
  exact h) ?_
 refine Xa ?_
 refine Ze (Zt (Zs (Zs (Zr ?_))))
 refine Xa ?_
 refine Ze (Zt (w_block ?_))
 obtain ⟨nB, hnB⟩ : ∃ n : Nat, n = bad.toNat % k := ⟨_, rfl⟩
 have hK := linesW_K cs k
 have hll := linesW_len cs k
 refine w_loop (σ := Nat × RowS × Sq) (fun z => z.1 ≤ 2 ∧ rowOK 9 z.2.1 k (ordsC (spW (linesW cs k) nB z.1)) ∧ Good (⟨pO, pF, mF, ckF, esF, 100000⟩ : Fx) s3W z.2.2) (fun z => [(0, Value.slice A0 cs.length c0), (1, Value.int .u8 bad), (5, Value.bool true), (6, Value.pointer (some ⟨pF, 0, none⟩)), (7, Value.pointer (some ⟨pO, 0, none⟩)), (9, rowV R k), (10, Value.pointer (some ⟨p10, 0, none⟩)), (11, Value.int .i64 (totalP (linesW cs k))), (14, Value.bool b122), (15, rowV z.2.1 k), (16, Value.string E1), (17, Value.string E2), (18, Value.int .i64 (z.1 : Nat))]) (fun z => (rowO 25 z.2.1 ++ [(p10, Obj.cells (sumC (linesW cs k)).toArray 53)]) ++ ((⟨pO, pF, mF, ckF, esF, 100000⟩ : Fx).own 0 z.2.2 ++ rowO 25 R)) (fun z => [(w, fun _ => True)]) (fun z => 2 - z.1) ((0, R2, q)) (⟨Nat.zero_le _, hR2, hg⟩) (l_start Zu (fun _ h => h)) ?_
 rintro ⟨j, R2, q2⟩ ⟨hj2, hR2, hg2⟩
 refine w_state ([(0, Value.slice A0 cs.length c0), (1, Value.int .u8 bad), (5, Value.bool true), (6, Value.pointer (some ⟨pF, 0, none⟩)), (7, Value.pointer (some ⟨pO, 0, none⟩)), (9, rowV R k), (10, Value.pointer (some ⟨p10, 0, none⟩)), (11, Value.int .i64 (totalP (linesW cs k))), (14, Value.bool b122), (15, rowV R2 k), (16, Value.string E1), (17, Value.string E2), (18, Value.int .i64 (j : Nat))]) ((rowO 25 R2 ++ [(p10, Obj.cells (sumC (linesW cs k)).toArray 53)]) ++ ((⟨pO, pF, mF, ckF, esF, 100000⟩ : Fx).own 0 q2 ++ rowO 25 R)) ([(w, fun _ => True)]) ?_
 dsimp only at hj2 hR2 hg2
 refine Zs (Zs (Zr ?_))
 refine Xm ?_
 refine Xb rfl (v_lss rfl rfl) fun b131 hb131 => ?_
 refine Xm ?_
 refine Xg ?_
 refine Xi rfl rfl rfl (fun hg0 => by subst hg0; (try simp only [Qy]); exact v_len_slice u52 rfl) ?_
 refine Xj rfl rfl rfl (fun hg0 => by subst hg0; (try simp only [Qy]); exact v_gtr rfl rfl) fun b135 hb135 => ?_
 refine Xb rfl (v_and rfl rfl) fun b136 hb136 => ?_
 refine Ze (Zt ?_)
 refine w_cond rfl (fun hc136 => ?_) (fun hc136 => ?_)
 ·simp only [hb136, hb135, hb131, Qz, ne_eq] at hc136
  have hj1 : j < 2 := by omega
  have hkp : 0 < k := by omega
  have hnl : nB < k := by rw [hnB]; exact Nat.mod_lt _ hkp
  have hbt : bad.tmod ((k : Nat) : Int) = ((nB : Nat) : Int) := by rw [hnB, Int.natCast_emod, Int.toNat_of_nonneg hbad.1, Int.tmod_eq_emod_of_nonneg hbad.1]
  have hnl2 : nB < (linesW cs k).length := by omega
  obtain ⟨b2, cs2, cp2, rfl⟩ := rec_here ordE_rec (by decide) (show rowOK 9 R2 k (recC PK.Ord.cells (spW (linesW cs k) nB j)) from hR2) (k := nB) (by rw [spW_len]; exact hnl2)
  obtain ⟨b1, cs1, cp1, rfl⟩ := rec_here ordE_rec (by decide) (show rowOK 9 R k (recC PK.Ord.cells (linesW cs k)) from hR) (k := nB) hnl2
  obtain ⟨r1, r2, r3, r4, r5⟩ := id hR2
  dsimp only at r2 r3 r4
  have hpk := hK _ (List.getElem_mem hnl2)
  unfold lineK at hpk
  refine w_skip (Zt (Zs (w_block (Zs (Zr ?_)))))
  refine Xm ?_
  refine Xv (v := Value.int .i64 bad) rfl (v_conv64 u5 u3 rfl (by omega)) ?_
  refine Xm ?_
  refine Xv rfl (v_len_slice u52 rfl) ?_
  refine Xv (v := Value.int .i64 ((nB : Nat) : Int)) rfl (by rw [← hbt]; exact v_rem rfl rfl (by omega)) ?_
  refine Xa ?_
  refine Ze (Zt ?_)
  refine w_seq_cut (σ := RowS) (fun R3 => rowOK 9 R3 k (ordsC (spW (linesW cs k) nB (j + 1)))) (fun R3 => [(0, Value.slice A0 cs.length c0), (1, Value.int .u8 bad), (5, Value.bool true), (6, Value.pointer (some ⟨pF, 0, none⟩)), (7, Value.pointer (some ⟨pO, 0, none⟩)), (9, rowV (some (b1, cs1, cp1)) k), (10, Value.pointer (some ⟨p10, 0, none⟩)), (11, Value.int .i64 (totalP (linesW cs k))), (14, Value.bool b122), (15, rowV R3 k), (16, Value.string E1), (17, Value.string E2), (18, Value.int .i64 (j : Nat))]) (fun R3 => (rowO 25 R3 ++ [(p10, Obj.cells (sumC (linesW cs k)).toArray 53)]) ++ ((⟨pO, pF, mF, ckF, esF, 100000⟩ : Fx).own 0 q2 ++ rowO 25 (some (b1, cs1, cp1)))) (fun R3 => [(w, fun _ => True)]) ?_ ?_
  ·refine w_seq ?_
   refine Zr ?_
   refine Xm ?_
   refine Xb rfl (v_eql rfl rfl) fun b145 hb145 => ?_
   refine Ze (Zt ?_)
   refine w_cond rfl (fun hc145 => ?_) (fun hc145 => ?_)
   ·simp only [hb145, Qz, ne_eq] at hc145
    obtain rfl : j = 0 := by omega
    refine Zr ?_
    refine Xm ?_
    refine Xm ?_
    refine Xv rfl (v_indexAddr u52 sz25 rfl rfl (by omega) rfl) ?_
    refine Xv rfl (v_fieldAddr u25 rfl sz23 (by decide) rfl rfl) ?_
    refine Xv rfl (v_fieldAddr u23 rfl sz3 (by decide) rfl rfl) ?_
    refine x_store (cs := cs2) (off := 0 + nB * 9 + 2 + 1) (e := 25) (l2 := (p10, Obj.cells (sumC (linesW cs k)).toArray 53) :: ((⟨pO, pF, mF, ckF, esF, 100000⟩ : Fx).own 0 q2 ++ rowO 25 (some (b1, cs1, cp1)))) [] rfl rfl rfl rfl sz3 rfl (by omega) ?_
    refine Ze ?_
    exact c_norm (some (b2, cs2.take (0 + nB * 9 + 2 + 1) ++ (Value.int .i64 9).cells.toList ++ cs2.drop (0 + nB * 9 + 2 + 1 + 1), cp2)) (by
     have h := ords_put (l := (linesW cs k)) (n := k) hR2 hll.symm hnl2 { (linesW cs k).getD nB zeroO with num := 9 } (j := 3) (m := 1) (vs := (Value.int .i64 9).cells.toList) rfl (by decide) (by rw [ordD_lt hnl2]; rfl)
     rw [show nB * 9 + 3 = 0 + nB * 9 + 2 + 1 by omega] at h
     exact h) Zu (fun _ h => h)
   simp only [hb145, Qz, ne_eq] at hc145
   obtain rfl : j = 1 := by omega
   refine Zs (Zr ?_)
   refine Xm ?_
   refine Xm ?_
   refine Xm ?_
   refine Xm ?_
   refine Xv rfl (v_indexAddr u52 sz25 rfl rfl (by omega) rfl) ?_
   refine Xv rfl (v_loadN (vs := (linesW cs k)[nB].cells) u25 rfl sz25 rfl (fun i hi => at_ownL (vs := cs1) (List.mem_append_right _ (List.mem_append_right _ (.head _))) (rec_at ordE_rec (show rowOK 9 (some (b1, cs1, cp1)) k (recC PK.Ord.cells (linesW cs k)) from hR) hnl2 (List.getElem?_eq_getElem hi)))) ?_
   refine Xv rfl (v_indexAddr u52 sz25 rfl rfl (by omega) rfl) ?_
   refine x_store (cs := cs2) (off := 0 + nB * 9) (e := 25) (l2 := (p10, Obj.cells (sumC (linesW cs k)).toArray 53) :: ((⟨pO, pF, mF, ckF, esF, 100000⟩ : Fx).own 0 q2 ++ rowO 25 (some (b1, cs1, cp1)))) [] rfl rfl rfl rfl sz25 rfl (by omega) ?_
   refine Ze (Zt ?_)
   have hR3 : rowOK 9 (some (b2, (cs2.take (0 + nB * 9) ++ (Value.agg (linesW cs k)[nB].cells.toArray).cells.toList ++ cs2.drop (0 + nB * 9 + 9)), cp2)) k (ordsC (linesW cs k)) := by
    have h := ords_put (l := spW (linesW cs k) nB 1) (n := k) hR2 (by rw [spW_len]; exact hll.symm) (by rw [spW_len]; exact hnl2) (linesW cs k)[nB] (j := 0) (m := 9) (vs := (Value.agg (linesW cs k)[nB].cells.toArray).cells.toList) rfl (by decide) rfl
    rw [show nB * 9 + 0 = 0 + nB * 9 by omega, show (spW (linesW cs k) nB 1).set nB (linesW cs k)[nB] = (linesW cs k) by unfold spW; rw [if_neg (by decide), if_pos rfl, List.set_set, List.set_getElem_self]] at h
    exact h
   have hcl3 : (cs2.take (0 + nB * 9) ++ (Value.agg (linesW cs k)[nB].cells.toArray).cells.toList ++ cs2.drop (0 + nB * 9 + 9)).length = cs2.length := by rw [hR3.2.2.2.1, r4]
   refine Zr ?_
   refine Xm ?_
   refine Xm ?_
   refine Xv rfl (v_indexAddr u52 sz25 rfl rfl (by omega) rfl) ?_
   refine Xv rfl (v_fieldAddr u25 rfl sz3 (by decide) rfl rfl) ?_
   refine Xv (v := Value.int .i64 (linesW cs k)[nB].price) rfl (v_load u3 rfl rfl (at_ownL (vs := (cs2.take (0 + nB * 9) ++ (Value.agg (linesW cs k)[nB].cells.toArray).cells.toList ++ cs2.drop (0 + nB * 9 + 9))) (.head _) (rec_at ordE_rec (show rowOK 9 (some (b2, (cs2.take (0 + nB * 9) ++ (Value.agg (linesW cs k)[nB].cells.toArray).cells.toList ++ cs2.drop (0 + nB * 9 + 9)), cp2)) k (recC PK.Ord.cells (linesW cs k)) from hR3) hnl2 (j := 5) rfl))) ?_
   refine Xv rfl (v_addi rfl rfl rfl Zo) ?_
   refine Xv rfl (v_indexAddr u52 sz25 rfl rfl (by omega) rfl) ?_
   refine Xv rfl (v_fieldAddr u25 rfl sz3 (by decide) rfl rfl) ?_
   refine x_store (cs := (cs2.take (0 + nB * 9) ++ (Value.agg (linesW cs k)[nB].cells.toArray).cells.toList ++ cs2.drop (0 + nB * 9 + 9))) (off := 0 + nB * 9 + 5) (e := 25) (l2 := (p10, Obj.cells (sumC (linesW cs k)).toArray 53) :: ((⟨pO, pF, mF, ckF, esF, 100000⟩ : Fx).own 0 q2 ++ rowO 25 (some (b1, cs1, cp1)))) [] rfl rfl rfl rfl sz3 rfl (by rw [hcl3]; omega) ?_
   refine Ze ?_
   exact c_norm (some (b2, (cs2.take (0 + nB * 9) ++ (Value.agg (linesW cs k)[nB].cells.toArray).cells.toList ++ cs2.drop (0 + nB * 9 + 9)).take (0 + nB * 9 + 5) ++ (Value.int .i64 ((linesW cs k)[nB].price + 1)).cells.toList ++ (cs2.take (0 + nB * 9) ++ (Value.agg (linesW cs k)[nB].cells.toArray).cells.toList ++ cs2.drop (0 + nB * 9 + 9)).drop (0 + nB * 9 + 5 + 1), cp2)) (by
    have h := ords_put (l := (linesW cs k)) (n := k) hR3 hll.symm hnl2 { (linesW cs k).getD nB zeroO with price := ((linesW cs k).getD nB zeroO).price + 1 } (j := 5) (m := 1) (vs := (Value.int .i64 ((linesW cs k)[nB].price + 1)).cells.toList) rfl (by decide) (by rw [ordD_lt hnl2]; rfl)
    rw [show nB * 9 + 5 = 0 + nB * 9 + 5 by omega] at h
    exact h) Zu (fun _ h => h)
  rintro R3 hR3
  obtain ⟨hx1, hx2, hx3, _⟩ := inv_text (ls := (spW (linesW cs k) nB (j + 1))) (by rw [spW_len]; omega) (fun o ho => (spW_A hK hnl2 o ho).2)
  obtain ⟨c, hc0, hci⟩ := spW_bad hK (by omega) hnl2 (k := j + 1) (by omega)
  have hwl : (wrT (invR (spW (linesW cs k) nB (j + 1)))).length ≤ 2000000000000 := by have : (wrT (invR (spW (linesW cs k) nB (j + 1)))).toArray.size ≤ 200000000 := hx2; rw [List.size_toArray] at this; omega
  obtain ⟨T34, hT34⟩ : ∃ T, txI (spW (linesW cs k) nB (j + 1)) = T := ⟨_, rfl⟩
  rw [hT34] at hx1 hx2 hx3 hci
  refine Zs (Zr ?_)
  refine Xm ?_
  refine x_call (R := fun v wa wb => sliceRd tySeg (fun b => wa.heap.size ≤ b) wb v (invR (spW (linesW cs k) nB (j + 1)))) rfl rfl rfl Tryz.func26 Zk rfl (fun w1 hw1 => (c_rInvoice (ls := (spW (linesW cs k) nB (j + 1))) w1 (ords_rd (D := fun _ => True) (e := 25) hR3 (by rw [spW_len]; exact hll.symm) (fun x hx => (spW_A hK hnl2 x hx).1) hw1 (fun p hp => by simp [hp]) (fun _ _ => trivial))).mono fun e w2 ⟨v, h1, h2, h3⟩ => ⟨_, h1, h2, h3⟩) fun v168 wa168 wb168 hm168 hl168 hR168 => ?_
  refine x_callv (v := Value.tuple #[.string T34, .int .i64 0]) rfl rfl rfl Tryz.func25 Zk rfl (fun w1 hw1 => by
   have h := c_rWrite (l := invR (spW (linesW cs k) nB (j + 1))) w1 (keep_new hR168 hw1 Zh hm168) hwl
   rw [hx1] at h; exact h) ?_
  refine Xm ?_
  refine Xv rfl (v_extract rfl rfl) ?_
  refine Xv rfl (v_extract rfl rfl) ?_
  refine Xa ?_
  refine Xa ?_
  refine Ze (Zt (Zs (Zr ?_)))
  refine Xm ?_
  refine Xm ?_
  refine x_turnf (τ := Sq) (v := Value.int .i64 c) (fun q => Good (⟨pO, pF, mF, ckF, esF, 100000⟩ : Fx) s3W q) (fun q => (rowO 25 R3 ++ [(p10, Obj.cells (sumC (linesW cs k)).toArray 53)]) ++ ((⟨pO, pF, mF, ckF, esF, 100000⟩ : Fx).own 0 q ++ rowO 25 (some (b1, cs1, cp1)))) rfl rfl Tryz.func15 Zk rfl (fun w1 hw1 => by
   have h := k_Invoice (l1 := (rowO 25 R3 ++ [(p10, Obj.cells (sumC (linesW cs k)).toArray 53)])) (L := rowO 25 (some (b1, cs1, cp1))) (x := (⟨pO, pF, mF, ckF, esF, 100000⟩ : Fx)) (q := q2) (s := s3W) hw1 hg2 (by simp) hL T34 hx2 hx3
   rw [hci] at h
   exact h) ?_
  intro q174 hg174
  refine Xb rfl (v_eql rfl rfl) fun b175 hb175 => ?_
  obtain rfl : b175 = false := hb175.trans (decide_eq_false hc0)
  refine Xm ?_
  refine x_valg rfl rfl rfl rfl rfl (v_move rfl) ?_
  refine x_callvg (v := Value.string E1) rfl rfl rfl rfl rfl Tryz.func18 Zk rfl (fun w1 hw1 => by
   have h := k_EncO (l1 := (rowO 25 R3 ++ [(p10, Obj.cells (sumC (linesW cs k)).toArray 53)])) (L := rowO 25 (some (b1, cs1, cp1))) (x := (⟨pO, pF, mF, ckF, esF, 100000⟩ : Fx)) (q := q174) (s := s3W) hw1 hg174 (by decide)
   rw [hE1] at h
   exact h) ?_
  refine x_valg rfl rfl rfl rfl rfl (v_move rfl) ?_
  refine x_boolg rfl rfl rfl rfl rfl (v_sneq rfl rfl) fun b180 hb180 => ?_
  obtain rfl : b180 = false := hb180.trans (decide_eq_false (fun q => q rfl))
  refine Xb rfl (v_or rfl rfl) fun b181 hb181 => ?_
  obtain rfl : b181 = false := hb181
  refine Xm ?_
  refine x_valg rfl rfl rfl rfl rfl (v_move rfl) ?_
  refine x_callvg (v := Value.string E2) rfl rfl rfl rfl rfl Tryz.func24 Zk rfl (fun w1 hw1 => by
   have h := k_EncF (l1 := (rowO 25 R3 ++ [(p10, Obj.cells (sumC (linesW cs k)).toArray 53)])) (L := rowO 25 (some (b1, cs1, cp1))) (x := (⟨pO, pF, mF, ckF, esF, 100000⟩ : Fx)) (q := q174) (s := s3W) hw1 hg174 (by decide) (srt_W 0 540) (fg_W (by decide))
   rw [hE2] at h
   exact h) ?_
  refine x_valg rfl rfl rfl rfl rfl (v_move rfl) ?_
  refine x_boolg rfl rfl rfl rfl rfl (v_sneq rfl rfl) fun b186 hb186 => ?_
  obtain rfl : b186 = false := hb186.trans (decide_eq_false (fun q => q rfl))
  refine Xb rfl (v_or rfl rfl) fun b187 hb187 => ?_
  obtain rfl : b187 = false := hb187
  refine Ze (Zt ?_)
  refine w_cond rfl (fun hc187 => ?_) (fun hc187 => ?_)
  ·cases hc187
  skip
  refine w_skip (b_norm (Zt (Zr ?_)))
  refine Xm ?_
  refine Xv rfl (v_addi rfl rfl rfl Zo) ?_
  refine Xa ?_
  refine Ze ?_
  exact l_norm (j + 1, R3, q174) ⟨by show j + 1 ≤ 2; omega, hR3, hg174⟩ (by simp only; omega) Zu (fun w1 h => h.less (.refl _) (fun s hs => by rw [List.mem_singleton.1 hs]; repeat (first | exact List.Mem.head _ | apply List.Mem.tail)))
 skip
 refine w_exit ?_
 refine t_exit ?_
 refine t_exit ?_
 refine b_hit ?_
 refine Zt (Zs ?_)
 obtain ⟨hx1, hx2, hx3, _⟩ := inv_text (ls := (linesW cs k)) (by omega) (fun o ho => (line_A hK o ho).2)
 have hlast := last_inv hK (by omega)
 have hwl : (wrT (invR (linesW cs k))).length ≤ 2000000000000 := by have : (wrT (invR (linesW cs k))).toArray.size ≤ 200000000 := hx2; rw [List.size_toArray] at this; omega
 obtain ⟨T37, hT37⟩ : ∃ T, txI (linesW cs k) = T := ⟨_, rfl⟩
 rw [hT37] at hx1 hx2 hx3 hlast
 obtain ⟨r, hr⟩ : ∃ r, invoiceG s3W (rdTI T37).1 (rdTI T37).2 = r := ⟨_, rfl⟩
 rw [hr] at hlast
 refine Zr ?_
 refine Xm ?_
 refine x_call (R := fun v wa wb => sliceRd tySeg (fun b => wa.heap.size ≤ b) wb v (invR (linesW cs k))) rfl rfl rfl Tryz.func26 Zk rfl (fun w1 hw1 => (c_rInvoice (ls := (linesW cs k)) w1 (ords_rd (D := fun _ => True) (e := 25) hR hll.symm (fun x hx => (line_A hK x hx).1) hw1 (fun p hp => by simp [hp]) (fun _ _ => trivial))).mono fun e w2 ⟨v, h1, h2, h3⟩ => ⟨_, h1, h2, h3⟩) fun v190 wa190 wb190 hm190 hl190 hR190 => ?_
 refine x_callv (v := Value.tuple #[.string T37, .int .i64 0]) rfl rfl rfl Tryz.func25 Zk rfl (fun w1 hw1 => by
  have h := c_rWrite (l := invR (linesW cs k)) w1 (keep_new hR190 hw1 Zh hm190) hwl
  rw [hx1] at h; exact h) ?_
 refine Xm ?_
 refine Xv rfl (v_extract rfl rfl) ?_
 refine Xv rfl (v_extract rfl rfl) ?_
 refine Xa ?_
 refine Xa ?_
 refine Ze (Zt (Zs (Zr ?_)))
 refine Xm ?_
 refine Xm ?_
 refine x_turnf (τ := Sq) (v := Value.int .i64 r.1) (fun q => Good (⟨pO, pF, mF, ckF, esF, 100000⟩ : Fx) r.2 q) (fun q => (rowO 25 R2 ++ [(p10, Obj.cells (sumC (linesW cs k)).toArray 53)]) ++ ((⟨pO, pF, mF, ckF, esF, 100000⟩ : Fx).own 0 q ++ rowO 25 R)) rfl rfl Tryz.func15 Zk rfl (fun w1 hw1 => by
  have h := k_Invoice (l1 := (rowO 25 R2 ++ [(p10, Obj.cells (sumC (linesW cs k)).toArray 53)])) (L := rowO 25 R) (x := (⟨pO, pF, mF, ckF, esF, 100000⟩ : Fx)) (q := q2) (s := s3W) hw1 hg2 (by simp) hL T37 hx2 hx3
  rw [hr] at h
  exact h) ?_
 intro q196 hg196
 refine Xa ?_
 refine Ze (Zt (Zs (Zs (Zr ?_))))
 refine Xm ?_
 refine Xb rfl (v_not rfl) fun b198 hb198 => ?_
 refine Ze (Zt ?_)
 refine w_cond rfl (fun hc198 => ?_) (fun hc198 => ?_)
 ·have hw0 : b122 = false := by rw [hb198] at hc198; simpa using hc198
  obtain ⟨c, hc0, rfl⟩ := hlast.1 (fun h => by have := hW.2 h; rw [hw0] at this; cases this)
  refine Zs (Zr ?_)
  refine Xm ?_
  refine Xm ?_
  refine x_valg rfl rfl rfl rfl rfl (v_move rfl) ?_
  refine x_boolg rfl rfl rfl rfl rfl (v_neq rfl rfl) fun b202 hb202 => ?_
  obtain rfl : b202 = true := hb202.trans (decide_eq_true hc0)
  refine Xb rfl (v_and rfl rfl) fun b203 hb203 => ?_
  obtain rfl : b203 = true := hb203
  refine Xm ?_
  refine x_valg rfl rfl rfl rfl rfl (v_move rfl) ?_
  refine x_callvg (v := Value.string E1) rfl rfl rfl rfl rfl Tryz.func18 Zk rfl (fun w1 hw1 => by
   have h := k_EncO (l1 := (rowO 25 R2 ++ [(p10, Obj.cells (sumC (linesW cs k)).toArray 53)])) (L := rowO 25 R) (x := (⟨pO, pF, mF, ckF, esF, 100000⟩ : Fx)) (q := q196) (s := s3W) hw1 hg196 (by decide)
   rw [hE1] at h
   exact h) ?_
  refine x_valg rfl rfl rfl rfl rfl (v_move rfl) ?_
  refine x_boolg rfl rfl rfl rfl rfl (v_seql rfl rfl) fun b208 hb208 => ?_
  obtain rfl : b208 = true := hb208.trans (decide_eq_true rfl)
  refine Xb rfl (v_and rfl rfl) fun b209 hb209 => ?_
  obtain rfl : b209 = true := hb209
  refine Xm ?_
  refine x_valg rfl rfl rfl rfl rfl (v_move rfl) ?_
  refine x_callvg (v := Value.string E2) rfl rfl rfl rfl rfl Tryz.func24 Zk rfl (fun w1 hw1 => by
   have h := k_EncF (l1 := (rowO 25 R2 ++ [(p10, Obj.cells (sumC (linesW cs k)).toArray 53)])) (L := rowO 25 R) (x := (⟨pO, pF, mF, ckF, esF, 100000⟩ : Fx)) (q := q196) (s := s3W) hw1 hg196 (by decide) (srt_W 0 540) (fg_W (by decide))
   rw [hE2] at h
   exact h) ?_
  refine x_valg rfl rfl rfl rfl rfl (v_move rfl) ?_
  refine x_boolg rfl rfl rfl rfl rfl (v_seql rfl rfl) fun b214 hb214 => ?_
  obtain rfl : b214 = true := hb214.trans (decide_eq_true rfl)
  refine Xb rfl (v_and rfl rfl) fun b215 hb215 => ?_
  obtain rfl : b215 = true := hb215
  refine Xa ?_
  refine Ze (Zt (w_ret (t_ret ?_)))
  refine ret1 rfl rfl (fun w' hm => ⟨?_, hm.base (by simp)⟩)
  rfl
 have hw1 : b122 = true := by rw [hb198] at hc198; simpa using hc198
 obtain ⟨qf, hqf, rfl⟩ := hlast.2 (hW.1 hw1)
 have hg3 : Good (⟨pO, pF, mF, ckF, esF, 100000⟩ : Fx) (⟨fsW (totalP (linesW cs k)) (540 - totalP (linesW cs k)), 0, LW qf⟩ : SG) q196 := hg196
 refine w_skip (Zt (Zs (Zs (Zr ?_))))
 refine Xa ?_
 refine Ze (Zt (w_block ?_))
 refine w_loop (σ := Nat) (fun z => z ≤ 3) (fun z => [(5, Value.bool true), (6, Value.pointer (some ⟨pF, 0, none⟩)), (7, Value.pointer (some ⟨pO, 0, none⟩)), (10, Value.pointer (some ⟨p10, 0, none⟩)), (11, Value.int .i64 (totalP (linesW cs k))), (24, Value.int .i64 0), (25, Value.int .i64 ((z + 1 : Nat) : Int))]) (fun z => (rowO 25 R2 ++ [(p10, Obj.cells (sumC (linesW cs k)).toArray 53)]) ++ ((⟨pO, pF, mF, ckF, esF, 100000⟩ : Fx).own 0 q196 ++ rowO 25 R)) (fun z => [(w, fun _ => True)]) (fun z => 3 - z) (0) ((Nat.zero_le _)) (l_start Zu (fun w1 h => h.less (.refl _) (fun s hs => by rw [List.mem_singleton.1 hs]; repeat (first | exact List.Mem.head _ | apply List.Mem.tail)))) ?_
 rintro i hi3
 refine Zs (Zs (Zr ?_))
 refine Xm ?_
 refine Xb rfl (v_lss rfl rfl) fun b217 hb217 => ?_
 refine Ze (Zt ?_)
 refine w_cond rfl (fun hc217 => ?_) (fun hc217 => ?_)
 ·simp only [hb217, Qz, ne_eq] at hc217
  have hi2 : i < 3 := by omega
  have hi4 : ((i + 1 : Nat) : Int) = 1 ∨ ((i + 1 : Nat) : Int) = 2 ∨ ((i + 1 : Nat) : Int) = 3 := by omega
  refine w_skip (Zt (Zs (w_block (Zs (Zr ?_)))))
  refine Xm ?_
  refine Xm ?_
  refine x_callv (v := Value.tuple #[.agg ({ oW ((i + 1 : Nat) : Int) with paid := qf ((i + 1 : Nat) : Int) } : PK.Ord).cells.toArray, .bool true]) rfl rfl rfl Tryz.func11 Zk rfl (fun w1 hw1 => by
   have h := k_Order (l1 := (rowO 25 R2 ++ [(p10, Obj.cells (sumC (linesW cs k)).toArray 53)])) (L := rowO 25 R) (x := (⟨pO, pF, mF, ckF, esF, 100000⟩ : Fx)) (q := q196) (s := (⟨fsW (totalP (linesW cs k)) (540 - totalP (linesW cs k)), 0, LW qf⟩ : SG)) hw1 hg3 (id := ((i + 1 : Nat) : Int)) (by unfold in64; omega)
   rw [show lkL (SG.L (⟨fsW (totalP (linesW cs k)) (540 - totalP (linesW cs k)), 0, LW qf⟩ : SG)) ((i + 1 : Nat) : Int) = _ from lkW hi4] at h
   exact h) ?_
  refine Xm ?_
  refine Xv rfl (v_extract rfl rfl) ?_
  refine Xb rfl (v_extract rfl rfl) fun b225 hb225 => ?_
  refine x_alloc rfl rfl rfl zr25 ?_
  intro p26
  refine x_store0 [] rfl rfl rfl rfl sz25 rfl rfl ?_
  refine Xa ?_
  refine Ze (Zt (Zs ?_))
  refine rg_draw 6 [(true, 0), (true, 1), (true, 2), (true, 3), (true, 4), (true, 5)] Zk Zk ?_
  refine Xv rfl (v_fieldAddr (off' := 7) u25 rfl sz3 (by decide) rfl rfl) ?_
  refine Xv (v := Value.int .i64 (qf ((i + 1 : Nat) : Int))) rfl (v_load u3 rfl rfl (at_ownL (vs := ({ oW ((i + 1 : Nat) : Int) with paid := qf ((i + 1 : Nat) : Int) } : PK.Ord).cells) (.head _) rfl)) ?_
  refine Xm ?_
  refine Xv rfl (v_indexArr u53 sz3 rfl rfl (by omega) rfl) ?_
  refine Xv (v := Value.int .i64 (sumW (linesW cs k) ((i + 1 : Nat) : Int))) rfl (v_load u3 rfl rfl (at_ownL (vs := sumC (linesW cs k)) (.tail _ (List.mem_append_left _ (List.mem_append_right _ (.head _)))) (sumC_at (by omega)))) ?_
  refine Xb rfl (v_neq rfl rfl) fun b231 hb231 => ?_
  obtain rfl : b231 = false := hb231.trans (decide_eq_false (fun q => q (hqf _ hi4)))
  refine Ze (Zt ?_)
  refine w_cond rfl (fun hc231 => ?_) (fun hc231 => ?_)
  ·cases hc231
  skip
  refine w_skip (b_norm (Zt (Zr ?_)))
  refine Xm ?_
  refine Xv rfl (v_addi rfl rfl rfl Zo) ?_
  refine Xa ?_
  refine Ze ?_
  exact l_norm (i + 1) (by show i + 1 ≤ 3; omega) (by show 3 - (i + 1) < 3 - i; omega) Zu (fun w1 h => h.less (List.sublist_cons_self _ _) (fun _ h => h))
 simp only [hb217, Qz, ne_eq] at hc217
 have t1 := total_sum hK
 have n1 := sumW_nn hK 1
 have n2 := sumW_nn hK 2
 have n3 := sumW_nn hK 3
 rw [hll] at n1 n2 n3
 refine w_exit ?_
 refine t_exit ?_
 refine t_exit ?_
 refine b_hit ?_
 refine Zt (Zs (Zr ?_))
 refine Xm ?_
 refine Xm ?_
 refine x_valg rfl rfl rfl rfl rfl (v_move rfl) ?_
 refine x_boolg rfl rfl rfl rfl rfl (v_eql rfl rfl) fun b235 hb235 => ?_
 obtain rfl : b235 = true := hb235.trans (decide_eq_true rfl)
 refine Xb rfl (v_and rfl rfl) fun b236 hb236 => ?_
 obtain rfl : b236 = true := hb236
 refine Xm ?_
 refine x_valg rfl rfl rfl rfl rfl (v_move rfl) ?_
 refine x_valg rfl rfl rfl rfl rfl (v_move rfl) ?_
 refine x_valg rfl rfl rfl rfl rfl (v_subi rfl rfl rfl Zo) ?_
 refine x_valg rfl rfl rfl rfl rfl (v_move rfl) ?_
 refine x_callbg rfl rfl rfl rfl rfl Tryz.func27 Zk rfl (fun w1 hw1 => k_has (l1 := (rowO 25 R2 ++ [(p10, Obj.cells (sumC (linesW cs k)).toArray 53)])) (L := rowO 25 R) (x := (⟨pO, pF, mF, ckF, esF, 100000⟩ : Fx)) (q := q196) (s := (⟨fsW (totalP (linesW cs k)) (540 - totalP (linesW cs k)), 0, LW qf⟩ : SG)) hw1 hg3 (f := ⟨100000, totalP (linesW cs k), 540 - totalP (linesW cs k)⟩) rfl (540 - totalP (linesW cs k)) (totalP (linesW cs k))) fun b242 hb242 => ?_
 obtain rfl : b242 = true := hb242.trans (by simp)
 refine Xb rfl (v_and rfl rfl) fun b243 hb243 => ?_
 obtain rfl : b243 = true := hb243
 refine Xa ?_
 refine Ze (Zt (w_ret ?_))
 refine ret1 rfl rfl (fun w' hm => ⟨?_, hm.base (by simp)⟩)
 rfl
open Go.RowKit Go.PK
def laidL : List (String × DataW Unit) := [("math/bits.deBruijn32tab", Rows.laid_math_bits_deBruijn32tab), ("math/bits.deBruijn64tab", Rows.laid_math_bits_deBruijn64tab), ("internal/strconv.uint64pow10", Rows.laid_internal_strconv_uint64pow10), ("unicode/utf8.acceptRanges", Rows.laid_unicode_utf8_acceptRanges), ("strconv.ErrRange", Rows.laid_strconv_ErrRange), ("strconv.ErrSyntax", Rows.laid_strconv_ErrSyntax), ("unicode/utf8.first", Rows.laid_unicode_utf8_first)]
theorem noHandle {W : World} (h : laidMetH Tryz.prog laidL W) : laidMet Tryz.prog laidL W := by
 have h1 := (laidMetH_iff.1 h).1
 rwa [show (laidL.filter fun x => x.2.handleName?.isNone) = laidL from by kernel_rfl] at h1
theorem laid_tab {W : World} (h : laidMet Tryz.prog laidL W) : Lib.TabIs Tryz.prog W "internal/strconv.uint64pow10" .u64 Lib.pow10Tab := by
 have h1 := h.filter fun x => x.1 == "internal/strconv.uint64pow10"
 have e : (laidL.filter fun x => x.1 == "internal/strconv.uint64pow10") = [("internal/strconv.uint64pow10", Lib.tabData .u64 Lib.pow10Tab)] := by kernel_rfl
 rw [e] at h1
 exact Lib.tabIs_of_head (g := 3) (t := 289) (e := 151) (n := 20) Zk Zk Zk Zk Zk Zk h1
theorem star : "*" ++ "errors.errorString" = "*errors.errorString" := by decide
theorem row104 (u : TypeId) (h : Tryz.prog.typeName? 3 u = some "*errors.errorString") : u = 283 :=
 typeName_ptr_named (nm := "errors.errorString") (by rw [star]; kernel_rfl) Zk (by decide) u (by rw [star]; exact h)
theorem laid_syn {W : World} (h : laidMet Tryz.prog laidL W) : ∃ tp p, W.var? Tryz.prog "strconv.ErrSyntax" = some #[.iface tp p] := by
 have h1 := h.filter fun x => x.1 == "strconv.ErrSyntax"
 have e : (laidL.filter fun x => x.1 == "strconv.ErrSyntax") = [("strconv.ErrSyntax", .iface "*errors.errorString" (.ptr (.agg [.lit (.string [105, 110, 118, 97, 108, 105, 100, 32, 115, 121, 110, 116, 97, 120])])))] := by kernel_rfl
 rw [e] at h1
 obtain ⟨a0, s0, hv0, _⟩ := laid_sentinel (g := 0) (ti := 175) (tp := 283) (te := 285) (ts := 9) h1 Zk Zk u175 row104 u283 u285 rfl rfl u9 Zk Zk
 exact ⟨_, _, hv0⟩
theorem laid_rng {W : World} (h : laidMet Tryz.prog laidL W) : ∃ tp p, W.var? Tryz.prog "strconv.ErrRange" = some #[.iface tp p] := by
 have h1 := h.filter fun x => x.1 == "strconv.ErrRange"
 have e : (laidL.filter fun x => x.1 == "strconv.ErrRange") = [("strconv.ErrRange", .iface "*errors.errorString" (.ptr (.agg [.lit (.string [118, 97, 108, 117, 101, 32, 111, 117, 116, 32, 111, 102, 32, 114, 97, 110, 103, 101])])))] := by kernel_rfl
 rw [e] at h1
 obtain ⟨a0, s0, hv0, _⟩ := laid_sentinel (g := 1) (ti := 175) (tp := 283) (te := 285) (ts := 9) h1 Zk Zk u175 row104 u283 u285 rfl rfl u9 Zk Zk
 exact ⟨_, _, hv0⟩
theorem ld_of {W : World} (h : laidMetH Tryz.prog laidL W) (hS : W.ShapedOpen Tryz.prog) : LD W := ⟨laid_tab (noHandle h), Tryz.laysM146.s1_3 W hS, laid_syn (noHandle h), laid_rng (noHandle h)⟩
theorem laid_met (os : Os) (args : Array Value) : laidMet Tryz.prog laidL ((World.laidAll Tryz.prog os laidL).forCall (fun _ _ => 0) ⟨#[], args, []⟩).memory :=
 laidMet_laidAll args Zk Zk
theorem bulk_one {H : Type} (d : DataW H) : 1 ≤ Rows.uptoBulk d := by
 cases d with
 | lit l => cases l <;> simp [Rows.uptoBulk]
 | nil => simp [Rows.uptoBulk]
 | ptr d => simp [Rows.uptoBulk]
 | slice elems spare => simp [Rows.uptoBulk]
 | agg parts => simp [Rows.uptoBulk]
 | iface t d => simp [Rows.uptoBulk]
 | map entries => simp [Rows.uptoBulk]
 | held h => simp [Rows.uptoBulk]
def meas (H : Type) : Meas H := ⟨Rows.uptoBulk, Rows.uptoBulkAll, fun _ => by simp [Rows.uptoBulk], fun _ _ => by simp [Rows.uptoBulk], fun _ => by simp [Rows.uptoBulk], fun _ _ => by simp [Rows.uptoBulkAll], bulk_one⟩
open Go.RowKit Go.PK
end Go.Proofs.YtifekogdhjabaaaGreatDoor
