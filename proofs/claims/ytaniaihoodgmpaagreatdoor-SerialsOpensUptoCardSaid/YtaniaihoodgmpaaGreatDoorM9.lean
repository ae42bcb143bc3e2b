/- Of the proofs of YtaniaihoodgmpaaGreatDoor: Uq Ur Us Xx Xp, put together. -/
import Derived.Test.YtaniaihoodgmpaaGreatDoorM8
import Derived.Test.YtaniaihoodgmpaaGreatDoorM2
import Derived.Test.YtaniaihoodgmpaaGreatDoorM6
import Derived.Lay
import Derived.LaidSub
import Derived.Lib.LaidTab
import Derived.Stop.LaidErr
import Derived.Deep.DeepHandedRow
import Derived.SevenTiedAt
import Derived.Test.YtaniaihoodgmpaaGreatDoorM3
import Derived.Test.YtaniaihoodgmpaaGreatDoorM1
import Derived.Test.YtaniaihoodgmpaaGreatDoorM4
import Derived.Test.YtaniaihoodgmpaaGreatDoorM5
import Derived.Test.YtaniaihoodgmpaaGreatDoorM7
set_option linter.unusedVariables false
set_option linter.unusedSimpArgs false
set_option maxRecDepth 100000

namespace Go.Proofs.YtaniaihoodgmpaaGreatDoor
open Go.RowKit Go.PK
attribute [local irreducible] WX
def nxE (es : List Ent) : Int := match es.getLast? with | none => 0 | some x => x.to + 1
theorem nxE_snoc (es : List Ent) (x : Ent) : nxE (es ++ [x]) = x.to + 1 := by unfold nxE; rw [List.getLast?_concat]
theorem nxE_at {es : List Ent} (h : 0 < es.length) : nxE es = es[es.length - 1].to + 1 := by
 unfold nxE
 rw [List.getLast?_eq_getElem?, List.getElem?_eq_getElem (by omega)]
set_option maxHeartbeats 2000000 in
theorem c_rOpen (s : ByteArray) (w : World) (hs : s.size ≤ 2000000) :
  Calls Tryz.prog 27 #[.string s] w fun e w' => ∃ v, e = .returned (.tuple #[v, .int .i64 (if (openG readQ s).isSome then 0 else 11)]) ∧ Later w w' ∧ OpOK (fun b => w.heap.size ≤ b) w' v (openG readQ s) := by
 refine enter (vs := [.string s]) Tryz.func27 rfl Tryz.ntmps27 rfl ?_
 refine Zs (Zr ?_)
 refine Xa ?_
 refine Xa ?_
 refine Ze (Zt (Zs (Zr ?_)))
 refine Xm ?_
 refine x_call (R := fun v wa wb => ∃ v2, v = .tuple #[v2, Value.int .i64 (unpQ s).2] ∧ sliceRd tyStr (fun b => wa.heap.size ≤ b) wb v2 (unpQ s).1) rfl rfl rfl Tryz.func63 Zk rfl (fun w1 hw1 => (c_rUnp s w1 hs).mono fun e w2 ⟨v, h1, h2, h3⟩ => ⟨_, h1, h2, v, rfl, h3⟩) fun v14 wa14 wb14 hm14 hl14 hR14 => ?_
 obtain ⟨v14_, rfl, hn14⟩ := hR14
 obtain ⟨A14, k14, rfl, _⟩ := id hn14
 obtain ⟨us, hus⟩ : ∃ l, (unpQ s).1 = l := ⟨_, rfl⟩
 obtain ⟨ue, hue⟩ : ∃ l, (unpQ s).2 = l := ⟨_, rfl⟩
 rw [hus] at hn14
 rw [hus, hue]
 refine Xm ?_
 refine Xv rfl (v_extract rfl rfl) ?_
 refine Xv rfl (v_extract rfl rfl) ?_
 refine Xa ?_
 refine Xa ?_
 refine Ze (Zt (Zs (Zs (Zr ?_))))
 refine Xm ?_
 refine Xb rfl (v_neq rfl rfl) fun b20 hb20 => ?_
 refine Xm ?_
 refine Xg ?_
 refine Xi rfl rfl rfl (fun hg0 => by subst hg0; (try simp only [Qy]); exact v_len_slice u55 rfl) ?_
 refine Xj rfl rfl rfl (fun hg0 => by subst hg0; (try simp only [Qy]); exact v_neq rfl rfl) fun b24 hb24 => ?_
 refine Xb rfl (v_or rfl rfl) fun b25 hb25 => ?_
 refine Ze (Zt ?_)
 refine w_cond rfl (fun hc25 => ?_) (fun hc25 => ?_)
 ·simp only [hb25, hb24, hb20, Qz, ne_eq] at hc25
  have hF : openG readQ s = none := by
   unfold openG
   rw [hus, hue, if_pos (by rcases hc25 with h | h; (· exact .inl h); exact .inr (by omega))]
  refine Zs (Zr ?_)
  refine Xa ?_
  refine Xa ?_
  refine Ze (Zt (w_ret (t_ret ?_)))
  exact ret2 rfl rfl rfl (fun w' hm => ⟨_, by rw [hF]; rfl, hm.base (by simp), by rw [hF]; exact rfl⟩)
 simp only [hb25, hb24, hb20, Qz, ne_eq] at hc25
 obtain ⟨hue0, hul⟩ : ue = 0 ∧ us.length = 2 := ⟨hc25.1, by have := hc25.2; omega⟩
 subst hue0
 obtain ⟨t0, t1, rfl⟩ : ∃ a b, us = [a, b] := by
  match us, hul with
  | [a, b], _ => exact ⟨a, b, rfl⟩
 obtain ⟨b14, o14, hA0, hD0, hc0, hz0⟩ := s_at hn14 (k := 0) (by simp)
 obtain ⟨b15, o15, hA1, hD1, hc1, hz1⟩ := s_at hn14 (k := 1) (by simp)
 have hsz := unp_back (s := s) (xs := [t0, t1]) (by rw [← hus, ← hue])
 have hs0 : t0.size ≤ s.size ∧ t1.size ≤ s.size := by
  have h := congrArg List.length hsz
  rw [bl_len] at h
  unfold packG at h
  simp only [List.flatMap_cons, List.flatMap_nil, List.length_append, bl_len] at h
  omega
 refine w_skip (Zt (Zs (Zr ?_)))
 refine Xv rfl (v_buildL (places := [(0, 4), (4, 1)]) u74 zr74 Zk rfl rfl) ?_
 refine x_box rfl rfl rfl rfl ?_
 intro p27
 refine Xa ?_
 refine Ze (Zt ?_)
 refine w_seq_cut (σ := Pat × Option Addr × Nat × Option Addr × Nat × World) (fun y => headQ readQ t0 = (y.1, 0) ∧ patRd (newD w ([(p27, Obj.cells ([Value.int .i64 y.1.first, Value.int .i64 y.1.days, Value.slice y.2.1 y.1.lv.length y.2.2.1, Value.slice y.2.2.2.1 y.1.st.length y.2.2.2.2.1, Value.slice none 0 0]).toArray 74 (0, 0))])) y.2.2.2.2.2 y.1 (Value.slice y.2.1 y.1.lv.length y.2.2.1) (Value.slice y.2.2.2.1 y.1.st.length y.2.2.2.2.1)) (fun y => [(2, Value.pointer none), (3, Value.int .i64 0), (4, Value.slice A14 2 k14), (6, Value.pointer (some ⟨p27, 0, none⟩))]) (fun y => [(p27, Obj.cells ([Value.int .i64 y.1.first, Value.int .i64 y.1.days, Value.slice y.2.1 y.1.lv.length y.2.2.1, Value.slice y.2.2.2.1 y.1.st.length y.2.2.2.2.1, Value.slice none 0 0]).toArray 74 (0, 0))]) (fun y => (y.2.2.2.2.2, notOwn ([(p27, Obj.cells ([Value.int .i64 y.1.first, Value.int .i64 y.1.days, Value.slice y.2.1 y.1.lv.length y.2.2.1, Value.slice y.2.2.2.1 y.1.st.length y.2.2.2.2.1, Value.slice none 0 0]).toArray 74 (0, 0))])) :: (wb14, notOwn []) :: [(w, fun _ => True)]) ?_ ?_
 ·refine w_seq ?_
  refine Zr ?_
  refine Xm ?_
  refine Xv rfl (v_indexAddr (j := 0) u55 sz9 (congrArg (fun A => some (Value.slice A 2 k14)) hA0) rfl (by simp) rfl) ?_
  refine Xv rfl (v_load u9 rfl rfl (at_ro (s := (wb14, notOwn [])) Zh (fun q hq he => by cases hq) (by rw [Nat.mul_one]; exact hc0))) ?_
  refine Xb rfl (v_sneq rfl rfl) fun b31 hb31 => ?_
  refine Ze (Zt ?_)
  refine w_cond rfl (fun hc31 => ?_) (fun hc31 => ?_)
  ·simp only [hb31, Qz, ne_eq] at hc31
   have htn : t0 ≠ ⟨#[]⟩ := hc31
   refine Zs (Zr ?_)
   refine Xm ?_
   refine Xv rfl (v_indexAddr (j := 0) u55 sz9 (congrArg (fun A => some (Value.slice A 2 k14)) hA0) rfl (by simp) rfl) ?_
   refine Xv rfl (v_load u9 rfl rfl (at_ro (s := (wb14, notOwn [])) Zh (fun q hq he => by cases hq) (by rw [Nat.mul_one]; exact hc0))) ?_
   refine x_call (R := fun v wa wb => ∃ v1 v2, v = .tuple #[.agg #[.int .i64 (readQ t0).1.first, .int .i64 (readQ t0).1.days, v1, v2], Value.int .i64 (readQ t0).2] ∧ patRd (fun b => wa.heap.size ≤ b) wb (readQ t0).1 v1 v2) rfl rfl rfl Tryz.func64 Zk rfl (fun w1 hw1 => (read_same t0 ▸ c_rRead t0 w1 (by omega)).mono fun e w2 ⟨v1, v2, h1, h2, h3⟩ => ⟨_, h1, h2, v1, v2, rfl, h3⟩) fun v36 wa35 wb35 hm35 hl35 hR35 => ?_
   obtain ⟨v1, v2, rfl, hpr⟩ := hR35
   obtain ⟨p, hp⟩ : ∃ p, (readQ t0).1 = p := ⟨_, rfl⟩
   obtain ⟨e5, he5⟩ : ∃ e, (readQ t0).2 = e := ⟨_, rfl⟩
   rw [hp] at hpr
   rw [hp, he5]
   obtain ⟨A1, c1, rfl, -⟩ := id hpr.2.2.1
   obtain ⟨A2, c2, rfl, -⟩ := id hpr.2.2.2
   refine Xm ?_
   refine Xv rfl (v_extract rfl rfl) ?_
   refine Xv rfl (v_extract rfl rfl) ?_
   refine x_alloc rfl rfl rfl zr26 ?_
   intro p7
   refine x_store0 [] rfl rfl rfl rfl sz26 rfl rfl ?_
   refine Xa ?_
   refine Ze (Zt (Zs (Zs (Zr ?_))))
   refine Xm ?_
   refine Xb rfl (v_neq rfl rfl) fun b40 hb40 => ?_
   refine Ze (Zt ?_)
   refine w_cond rfl (fun hc40 => ?_) (fun hc40 => ?_)
   ·simp only [hb40, Qz, ne_eq] at hc40
    have hF : openG readQ s = none := by
     unfold openG
     rw [hus, hue, if_neg (by simp)]
     show (if (headQ readQ t0).2 ≠ 0 ∨ _ then _ else _) = _
     exact if_pos (.inl (by unfold headQ; rw [if_pos htn, he5]; exact hc40))
    refine Zs (Zr ?_)
    refine Xa ?_
    refine Xa ?_
    refine Ze (Zt (w_ret (t_ret (t_ret ?_))))
    exact ret2 rfl rfl rfl (fun w' hm => ⟨_, by rw [hF]; rfl, hm.base (by simp), by rw [hF]; exact rfl⟩)
   simp only [hb40, Qz, ne_eq] at hc40
   have he50 : e5 = 0 := hc40
   subst he50
   refine w_skip (Zt (Zr ?_))
   refine Xm ?_
   refine Xv rfl (v_load_blk u26 rfl rfl (by first | exact .head _ | exact .tail _ (.head _) | exact .tail _ (.tail _ (.head _)) | (repeat (first | exact List.Mem.head _ | apply List.Mem.tail | apply List.mem_append_right))) (by exact sz26)) ?_
   refine Xv rfl (v_nilCheck rfl) ?_
   refine Xv rfl (v_fieldAddr (off' := 0) u74 rfl sz26 (by decide) rfl rfl) ?_
   refine x_store (cs := [Value.int .i64 0, Value.int .i64 0, Value.slice none 0 0, Value.slice none 0 0, Value.slice none 0 0]) (off := 0) (e := 74) (l2 := []) [(p7, _)] rfl rfl rfl rfl sz26 rfl (by show 4 ≤ 5; decide) ?_
   refine Ze ?_
   refine s_fix ([(p27, Obj.cells ([Value.int .i64 p.first, Value.int .i64 p.days, Value.slice A1 p.lv.length c1, Value.slice A2 p.st.length c2, Value.slice none 0 0]).toArray 74 (0, 0))]) ((List.Sublist.refl _).cons _) (fun w0 hm0 => ?_)
   exact c_norm (p, A1, c1, A2, c2, w0) ⟨by unfold headQ; rw [if_pos htn, ← hp, ← he5], patRd.keep hpr (Kept.made (hm0.less ((List.Sublist.refl _).cons _) (fun _ h => h)) (.head _) hm35 (hm35.base (by simp)).size)⟩ Zu (fun w1 h => h.less (List.Sublist.refl _) (fun s hs => by simp only [List.mem_cons] at hs ⊢; rcases hs with h | h | h; (· exact .inl h); (· exact .inr (.inr (.inl h))); exact .inr (.inr (.inr h))))
  simp only [hb31, Qz, ne_eq] at hc31
  have htn : t0 = ⟨#[]⟩ := hc31
  refine w_skip ?_
  refine s_fix ([(p27, Obj.cells ([Value.int .i64 0, Value.int .i64 0, Value.slice none 0 0, Value.slice none 0 0, Value.slice none 0 0]).toArray 74 (0, 0))]) (List.Sublist.refl _) (fun w0 hm0 => ?_)
  exact c_norm (zeroPat, none, 0, none, 0, w0) ⟨by unfold headQ; rw [if_neg (fun h => h htn)], (show in64 0 by unfold in64; decide), (show in64 0 by unfold in64; decide), ⟨none, 0, rfl, Nat.le_refl _, Nat.zero_le _, fun h => absurd h (Nat.lt_irrefl 0)⟩, ⟨none, 0, rfl, Nat.le_refl _, Nat.zero_le _, fun h => absurd h (Nat.lt_irrefl 0)⟩⟩ Zu (fun w1 h => h)
 rintro ⟨p, A1, c1, A2, c2, ws⟩ ⟨hpe, hpr⟩
 refine w_state ([(2, Value.pointer none), (3, Value.int .i64 0), (4, Value.slice A14 2 k14), (6, Value.pointer (some ⟨p27, 0, none⟩))]) ([(p27, Obj.cells ([Value.int .i64 p.first, Value.int .i64 p.days, Value.slice A1 p.lv.length c1, Value.slice A2 p.st.length c2, Value.slice none 0 0]).toArray 74 (0, 0))]) ((ws, notOwn ([(p27, Obj.cells ([Value.int .i64 p.first, Value.int .i64 p.days, Value.slice A1 p.lv.length c1, Value.slice A2 p.st.length c2, Value.slice none 0 0]).toArray 74 (0, 0))])) :: (wb14, notOwn []) :: [(w, fun _ => True)]) ?_
 dsimp only at hpe hpr
 have hG : openG readQ s = if (riQ t1).2 ≠ 0 ∨ (riQ t1).1.length % 4 ≠ 0 ∨ (0 < (riQ t1).1.length ∧ t0 = ⟨#[]⟩) then none else (opE 0 (riQ t1).1).map fun es => (p, es) := by
  unfold openG
  rw [hus, hue, if_neg (by simp)]
  show (if (headQ readQ t0).2 ≠ 0 ∨ (riQ t1).2 ≠ 0 ∨ (riQ t1).1.length % 4 ≠ 0 ∨ (0 < (riQ t1).1.length ∧ t0 = ⟨#[]⟩) then none else (opE 0 (riQ t1).1).map fun es => ((headQ readQ t0).1, es)) = _
  rw [hpe]
  simp
 refine Zs (Zr ?_)
 refine Xm ?_
 refine Xv rfl (v_indexAddr (j := 1) u55 sz9 (congrArg (fun A => some (Value.slice A 2 k14)) hA1) rfl (by simp) rfl) ?_
 refine Xv rfl (v_load u9 rfl rfl (at_ro (s := (wb14, notOwn [])) Zh (fun q hq he => by cases hq) (by rw [Nat.mul_one]; exact hc1))) ?_
 refine x_call (R := fun v wa wb => ∃ v2, v = .tuple #[v2, Value.int .i64 (riQ t1).2] ∧ sliceRd tyI (fun b => wa.heap.size ≤ b) wb v2 (riQ t1).1) rfl rfl rfl Tryz.func65 Zk rfl (fun w1 hw1 => (c_rRI t1 w1 (by omega)).mono fun e w2 ⟨v, h1, h2, h3⟩ => ⟨_, h1, h2, v, rfl, h3⟩) fun v49 wa49 wb49 hm49 hl49 hR49 => ?_
 obtain ⟨v49_, rfl, hn49⟩ := hR49
 obtain ⟨A49, k49, rfl, _⟩ := id hn49
 obtain ⟨xs, hxs⟩ : ∃ l, (riQ t1).1 = l := ⟨_, rfl⟩
 obtain ⟨fe, hfe⟩ : ∃ l, (riQ t1).2 = l := ⟨_, rfl⟩
 rw [hxs] at hn49
 rw [hxs, hfe] at hG
 rw [hxs, hfe]
 refine Xm ?_
 refine Xv rfl (v_extract rfl rfl) ?_
 refine Xv rfl (v_extract rfl rfl) ?_
 refine Xa ?_
 refine Xa ?_
 refine Ze (Zt (Zs (Zs (Zr ?_))))
 refine Xm ?_
 refine Xb rfl (v_neq rfl rfl) fun b53 hb53 => ?_
 refine Xm ?_
 refine Xg ?_
 refine Xi rfl rfl rfl (fun hg0 => by subst hg0; (try simp only [Qy]); exact v_len_slice u22 rfl) ?_
 refine x_if [] (v := Value.int .i64 ((xs.length % 4 : Nat) : Int)) rfl rfl rfl rfl rfl (fun hg => by obtain ⟨hg0, _⟩ := hg; subst hg0; (try simp only [Qy]); exact v_remN (b := 4) rfl rfl (by decide)) ?_
 refine Xj rfl rfl rfl (fun hg0 => by subst hg0; (try simp only [Qy]); exact v_neq rfl rfl) fun b58 hb58 => ?_
 refine Xb rfl (v_or rfl rfl) fun b59 hb59 => ?_
 refine Xm ?_
 refine Xg ?_
 refine Xi rfl rfl rfl (fun hg0 => by subst hg0; (try simp only [Qy]); exact v_len_slice u22 rfl) ?_
 refine Xj rfl rfl rfl (fun hg0 => by subst hg0; (try simp only [Qy]); exact v_gtr rfl rfl) fun b63 hb63 => ?_
 refine Xg ?_
 refine x_if [(b59, false)] rfl rfl rfl rfl rfl (fun hg => by obtain ⟨hg0, hg1, _⟩ := hg; subst hg0; subst hg1; (try simp only [Qy]); exact v_move rfl) ?_
 refine x_if [(b59, false)] rfl rfl rfl rfl rfl (fun hg => by obtain ⟨hg0, hg1, _⟩ := hg; subst hg0; subst hg1; (try simp only [Qy]); exact v_indexAddr (j := 0) u55 sz9 (congrArg (fun A => some (Value.slice A 2 k14)) hA0) rfl (by simp) rfl) ?_
 refine x_if [(b59, false)] rfl rfl rfl rfl rfl (fun hg => by obtain ⟨hg0, hg1, _⟩ := hg; subst hg0; subst hg1; (try simp only [Qy]); exact v_load u9 rfl rfl (at_ro (s := (wb14, notOwn [])) Zh (fun q hq he => by cases hq) (by rw [Nat.mul_one]; exact hc0))) ?_
 refine x_ifb [(b59, false)] rfl rfl rfl rfl rfl (fun hg => by obtain ⟨hg0, hg1, _⟩ := hg; subst hg0; subst hg1; (try simp only [Qy]); exact v_seql rfl rfl) fun b68 hb68 => ?_
 refine Xj rfl rfl rfl (fun hg0 => by subst hg0; (try simp only [Qy]); exact v_and rfl rfl) fun b69 hb69 => ?_
 refine Xb rfl (v_or rfl rfl) fun b70 hb70 => ?_
 refine Ze (Zt ?_)
 refine w_cond rfl (fun hc70 => ?_) (fun hc70 => ?_)
 ·simp only [hb70, hb69, hb68, hb63, hb59, hb58, hb53, Qz, ne_eq] at hc70
  have hF : openG readQ s = none := by
   rw [hG, if_pos]
   rcases hc70 with (h | h) | h
   ·exact .inl h
   ·exact .inr (.inl (by omega))
   exact .inr (.inr ⟨by omega, h.2⟩)
  refine Zs (Zr ?_)
  refine Xa ?_
  refine Xa ?_
  refine Ze (Zt (w_ret (t_ret ?_)))
  exact ret2 rfl rfl rfl (fun w' hm => ⟨_, by rw [hF]; rfl, hm.base (by simp), by rw [hF]; exact rfl⟩)
 simp only [hb70, hb69, hb68, hb63, hb59, hb58, hb53, Qz, ne_eq] at hc70
 obtain ⟨⟨hf0, hl4⟩, hl0⟩ := hc70
 rw [if_neg (by rintro (h | h | h); (· exact h hf0); (· omega); rcases hl0 with h9 | h9; (· omega); exact h9 h.2)] at hG
 refine w_skip (Zt (Zs (Zs (Zr ?_))))
 refine Xa ?_
 refine Ze (Zt (w_block ?_))
 have hlc49 : xs.length ≤ k49 := by
  obtain ⟨A', c', e, h1, _⟩ := id hn49
  injection e with _ _ e3
  omega
 have hxl : xs.length ≤ 2000000 := by
  have := ri_len (s := t1) (xs := xs) (by rw [← hxs, ← hf0, ← hfe])
  omega
 refine w_loop (σ := Nat × List Ent × RowS) (fun x => x.1 ≤ xs.length / 4 ∧ opE 0 xs = (opE (nxE x.2.1) (xs.drop (4 * x.1))).map (x.2.1 ++ ·) ∧ x.2.1.length = x.1 ∧ (0 ≤ nxE x.2.1 ∧ nxE x.2.1 ≤ 100000) ∧ rowOK 4 x.2.2 x.2.1.length (entsC x.2.1) ∧ ∀ y ∈ x.2.1, entOK y) (fun x => [(2, Value.pointer none), (3, Value.int .i64 0), (4, Value.slice A14 2 k14), (6, Value.pointer (some ⟨p27, 0, none⟩)), (9, Value.slice A49 xs.length k49), (10, Value.int .i64 ((4 * x.1 : Nat) : Int))]) (fun x => (p27, Obj.cells ([Value.int .i64 p.first, Value.int .i64 p.days, Value.slice A1 p.lv.length c1, Value.slice A2 p.st.length c2, rowV x.2.2 x.2.1.length]).toArray 74 (0, 0)) :: rowO 91 x.2.2) (fun x => (wb49, notOwn ([(p27, Obj.cells ([Value.int .i64 p.first, Value.int .i64 p.days, Value.slice A1 p.lv.length c1, Value.slice A2 p.st.length c2, Value.slice none 0 0]).toArray 74 (0, 0))])) :: (ws, notOwn ([(p27, Obj.cells ([Value.int .i64 p.first, Value.int .i64 p.days, Value.slice A1 p.lv.length c1, Value.slice A2 p.st.length c2, Value.slice none 0 0]).toArray 74 (0, 0))])) :: (wb14, notOwn []) :: [(w, fun _ => True)]) (fun x => xs.length / 4 - x.1) ((0, [], none)) (⟨Nat.zero_le _, by simp [nxE], rfl, by simp [nxE], rowOK_nil, (fun y hy => by cases hy)⟩) (l_start Zu (fun _ h => h)) ?_
 rintro ⟨k, es, R⟩ ⟨hkq, hO, hlk, hnx, hR, hok⟩
 refine w_state ([(2, Value.pointer none), (3, Value.int .i64 0), (4, Value.slice A14 2 k14), (6, Value.pointer (some ⟨p27, 0, none⟩)), (9, Value.slice A49 xs.length k49), (10, Value.int .i64 ((4 * k : Nat) : Int))]) ((p27, Obj.cells ([Value.int .i64 p.first, Value.int .i64 p.days, Value.slice A1 p.lv.length c1, Value.slice A2 p.st.length c2, rowV R es.length]).toArray 74 (0, 0)) :: rowO 91 R) ((wb49, notOwn ([(p27, Obj.cells ([Value.int .i64 p.first, Value.int .i64 p.days, Value.slice A1 p.lv.length c1, Value.slice A2 p.st.length c2, Value.slice none 0 0]).toArray 74 (0, 0))])) :: (ws, notOwn ([(p27, Obj.cells ([Value.int .i64 p.first, Value.int .i64 p.days, Value.slice A1 p.lv.length c1, Value.slice A2 p.st.length c2, Value.slice none 0 0]).toArray 74 (0, 0))])) :: (wb14, notOwn []) :: [(w, fun _ => True)]) ?_
 dsimp only at hkq hO hlk hnx hR hok
 refine Zs (Zs (Zr ?_))
 refine Xm ?_
 refine Xm ?_
 refine Xv rfl (v_len_slice u22 rfl) ?_
 refine Xb rfl (v_lss rfl rfl) fun b74 hb74 => ?_
 refine Ze (Zt ?_)
 refine w_cond rfl (fun hc74 => ?_) (fun hc74 => ?_)
 ·simp only [hb74, Qz, ne_eq] at hc74
  have hkl : k < xs.length / 4 := by omega
  obtain ⟨b44, o44, a, b, c, d, hA44, hD44, hx0, hx1, hx2, hx3, hd0, hd1, hd2, hd3, hdrop⟩ := k_at4 hn49 (k := 4 * k) (by omega)
  refine w_skip (Zt (Zs (w_block (Zs ?_))))
  refine rg_draw 22 [(true, 0), (true, 1), (true, 2), (true, 3), (true, 4), (true, 5), (true, 6), (true, 7), (true, 8), (true, 9), (true, 10), (true, 11), (true, 12), (true, 13), (true, 14), (true, 15), (true, 16), (true, 17), (true, 18), (true, 19), (true, 20), (false, 21)] Zk Zk ?_
  refine Xm ?_
  refine Xm ?_
  refine Xv rfl (v_indexAddr (j := 4 * k + 0) u22 sz3 (congrArg (fun A : Option Addr => some (Value.slice A xs.length k49)) hA44) rfl Zo rfl) ?_
  refine Xv rfl (v_load u3 rfl rfl (at_ro (s := (wb49, notOwn ([(p27, Obj.cells ([Value.int .i64 p.first, Value.int .i64 p.days, Value.slice A1 p.lv.length c1, Value.slice A2 p.st.length c2, Value.slice none 0 0]).toArray 74 (0, 0))]))) Zh (fun q hq he => by have := hm49.lt hq; omega) (by rw [Nat.mul_one]; exact hx0))) ?_
  refine Xm ?_
  refine Xm ?_
  refine Xv rfl (v_addi (c := ((4 * k + 1 : Nat) : Int)) rfl rfl (by omega) Zo) ?_
  refine Xv rfl (v_indexAddr (j := 4 * k + 1) u22 sz3 (congrArg (fun A : Option Addr => some (Value.slice A xs.length k49)) hA44) rfl Zo rfl) ?_
  refine Xv rfl (v_load u3 rfl rfl (at_ro (s := (wb49, notOwn ([(p27, Obj.cells ([Value.int .i64 p.first, Value.int .i64 p.days, Value.slice A1 p.lv.length c1, Value.slice A2 p.st.length c2, Value.slice none 0 0]).toArray 74 (0, 0))]))) Zh (fun q hq he => by have := hm49.lt hq; omega) (by rw [Nat.mul_one]; exact hx1))) ?_
  refine Xm ?_
  refine Xm ?_
  refine Xv rfl (v_addi (c := ((4 * k + 2 : Nat) : Int)) rfl rfl (by omega) Zo) ?_
  refine Xv rfl (v_indexAddr (j := 4 * k + 2) u22 sz3 (congrArg (fun A : Option Addr => some (Value.slice A xs.length k49)) hA44) rfl Zo rfl) ?_
  refine Xv rfl (v_load u3 rfl rfl (at_ro (s := (wb49, notOwn ([(p27, Obj.cells ([Value.int .i64 p.first, Value.int .i64 p.days, Value.slice A1 p.lv.length c1, Value.slice A2 p.st.length c2, Value.slice none 0 0]).toArray 74 (0, 0))]))) Zh (fun q hq he => by have := hm49.lt hq; omega) (by rw [Nat.mul_one]; exact hx2))) ?_
  refine Xb rfl (v_eql rfl rfl) fun b91 hb91 => ?_
  refine Xm ?_
  refine Xm ?_
  refine Xv rfl (v_addi (c := ((4 * k + 3 : Nat) : Int)) rfl rfl (by omega) Zo) ?_
  refine Xv rfl (v_indexAddr (j := 4 * k + 3) u22 sz3 (congrArg (fun A : Option Addr => some (Value.slice A xs.length k49)) hA44) rfl Zo rfl) ?_
  refine Xv rfl (v_load u3 rfl rfl (at_ro (s := (wb49, notOwn ([(p27, Obj.cells ([Value.int .i64 p.first, Value.int .i64 p.days, Value.slice A1 p.lv.length c1, Value.slice A2 p.st.length c2, Value.slice none 0 0]).toArray 74 (0, 0))]))) Zh (fun q hq he => by have := hm49.lt hq; omega) (by rw [Nat.mul_one]; exact hx3))) ?_
  refine Xv rfl (v_buildL (places := [(0, 1), (1, 1), (2, 1), (3, 1)]) u91 zr91 Zk rfl rfl) ?_
  refine x_alloc rfl rfl rfl zr91 ?_
  intro p11
  refine x_store0 [] rfl rfl rfl rfl sz91 rfl rfl ?_
  refine Ze (Zt (Zs (Zr ?_)))
  refine Xa ?_
  refine Ze (Zt ?_)
  refine w_seq_cut (σ := Int) (fun bf => bf = nxE es - 1) (fun bf => [(2, Value.pointer none), (3, Value.int .i64 0), (4, Value.slice A14 2 k14), (6, Value.pointer (some ⟨p27, 0, none⟩)), (9, Value.slice A49 xs.length k49), (10, Value.int .i64 ((4 * k : Nat) : Int)), (11, Value.pointer (some ⟨p11, 0, none⟩)), (12, Value.int .i64 bf)]) (fun bf => (p11, Obj.cells [Value.int .i64 a, Value.int .i64 b, Value.bool b91, Value.int .i64 d].toArray 91 (0, 0)) :: (p27, Obj.cells ([Value.int .i64 p.first, Value.int .i64 p.days, Value.slice A1 p.lv.length c1, Value.slice A2 p.st.length c2, rowV R es.length]).toArray 74 (0, 0)) :: rowO 91 R) (fun bf => (wb49, notOwn ([(p27, Obj.cells ([Value.int .i64 p.first, Value.int .i64 p.days, Value.slice A1 p.lv.length c1, Value.slice A2 p.st.length c2, Value.slice none 0 0]).toArray 74 (0, 0))])) :: (ws, notOwn ([(p27, Obj.cells ([Value.int .i64 p.first, Value.int .i64 p.days, Value.slice A1 p.lv.length c1, Value.slice A2 p.st.length c2, Value.slice none 0 0]).toArray 74 (0, 0))])) :: (wb14, notOwn []) :: [(w, fun _ => True)]) ?_ ?_
  ·refine w_seq ?_
   refine Zr ?_
   refine Xm ?_
   refine Xv rfl (v_nilCheck rfl) ?_
   refine Xv rfl (v_fieldAddr (off' := 4) u74 rfl sz72 (by decide) rfl rfl) ?_
   refine Xv rfl (v_load u72 rfl rfl (at_ownL (vs := [Value.int .i64 p.first, Value.int .i64 p.days, Value.slice A1 p.lv.length c1, Value.slice A2 p.st.length c2, rowV R es.length]) Zh rfl)) ?_
   refine Xv rfl (v_len_slice u72 rfl) ?_
   refine Xb rfl (v_gtr rfl rfl) fun b103 hb103 => ?_
   refine Ze (Zt ?_)
   refine w_cond rfl (fun hc103 => ?_) (fun hc103 => ?_)
   ·simp only [hb103, Qz, ne_eq] at hc103
    have h0 : 0 < es.length := by omega
    obtain ⟨b0, cs0, cp0, rfl⟩ : ∃ b0 cs0 cp0, R = some (b0, cs0, cp0) := by
     obtain ⟨b0, cs0, cp0, h, _⟩ := rowOK.cell hR (j := 0) (by rw [entsC_len]; omega)
     exact ⟨b0, cs0, cp0, h⟩
    refine rg_draw 14 [(true, 0), (true, 1), (true, 2), (true, 3), (true, 4), (true, 5), (true, 6), (true, 7), (true, 8), (true, 9), (true, 10), (true, 11), (true, 12), (true, 13)] Zk Zk ?_
    refine Xm ?_
    refine Xv rfl (v_nilCheck rfl) ?_
    refine Xv rfl (v_fieldAddr (off' := 4) u74 rfl sz72 (by decide) rfl rfl) ?_
    refine Xv rfl (v_load u72 rfl rfl (at_ownL (vs := [Value.int .i64 p.first, Value.int .i64 p.days, Value.slice A1 p.lv.length c1, Value.slice A2 p.st.length c2, rowV (some (b0, cs0, cp0)) es.length]) Zh rfl)) ?_
    refine Xm ?_
    refine Xv rfl (v_nilCheck rfl) ?_
    refine Xv rfl (v_fieldAddr (off' := 4) u74 rfl sz72 (by decide) rfl rfl) ?_
    refine Xv rfl (v_load u72 rfl rfl (at_ownL (vs := [Value.int .i64 p.first, Value.int .i64 p.days, Value.slice A1 p.lv.length c1, Value.slice A2 p.st.length c2, rowV (some (b0, cs0, cp0)) es.length]) Zh rfl)) ?_
    refine Xv rfl (v_len_slice u72 rfl) ?_
    refine Xv rfl (v_subi (c := ((es.length - 1 : Nat) : Int)) rfl rfl (by omega) Zo) ?_
    refine Xv rfl (v_indexAddr (j := es.length - 1) u72 sz91 rfl rfl Zo rfl) ?_
    refine Xv rfl (v_fieldAddr u91 rfl sz3 (by decide) rfl rfl) ?_
    refine Xv rfl (v_load u3 rfl rfl (at_ownL (vs := cs0) Zh (rowE_at hR rfl (by omega) (j := 1) (by show 1 < 4; decide)))) ?_
    refine Xa ?_
    refine Ze ?_
    exact c_norm (es[es.length - 1].to) (by rw [nxE_at h0]; omega) Zu (fun w1 h => h)
   simp only [hb103, Qz, ne_eq] at hc103
   have h0 : es = [] := List.eq_nil_of_length_eq_zero (by omega)
   refine w_skip ?_
   exact c_norm (-1) (by rw [h0]; rfl) Zu (fun w1 h => h)
  rintro bf hbf
  refine w_state ([(2, Value.pointer none), (3, Value.int .i64 0), (4, Value.slice A14 2 k14), (6, Value.pointer (some ⟨p27, 0, none⟩)), (9, Value.slice A49 xs.length k49), (10, Value.int .i64 ((4 * k : Nat) : Int)), (11, Value.pointer (some ⟨p11, 0, none⟩)), (12, Value.int .i64 bf)]) ((p11, Obj.cells [Value.int .i64 a, Value.int .i64 b, Value.bool b91, Value.int .i64 d].toArray 91 (0, 0)) :: (p27, Obj.cells ([Value.int .i64 p.first, Value.int .i64 p.days, Value.slice A1 p.lv.length c1, Value.slice A2 p.st.length c2, rowV R es.length]).toArray 74 (0, 0)) :: rowO 91 R) ((wb49, notOwn ([(p27, Obj.cells ([Value.int .i64 p.first, Value.int .i64 p.days, Value.slice A1 p.lv.length c1, Value.slice A2 p.st.length c2, Value.slice none 0 0]).toArray 74 (0, 0))])) :: (ws, notOwn ([(p27, Obj.cells ([Value.int .i64 p.first, Value.int .i64 p.days, Value.slice A1 p.lv.length c1, Value.slice A2 p.st.length c2, Value.slice none 0 0]).toArray 74 (0, 0))])) :: (wb14, notOwn []) :: [(w, fun _ => True)]) ?_
  refine Zs (Zr ?_)
  refine Xv rfl (v_fieldAddr (off' := 3) u91 rfl sz3 (by decide) rfl rfl) ?_
  refine Xv rfl (Vl u3 rfl) ?_
  refine x_callb rfl rfl rfl Tryz.func46 Zk rfl (fun w1 hw1 => c_risDay _ w1) fun b119 hb119 => ?_
  refine Xa ?_
  refine Ze (Zt (Zs (Zs (Zr ?_))))
  refine Xv rfl (v_fieldAddr (off' := 0) u91 rfl sz3 (by decide) rfl rfl) ?_
  refine Xv rfl (Vl u3 rfl) ?_
  refine Xm ?_
  refine Xb rfl (v_leq rfl rfl) fun b123 hb123 => ?_
  refine Xm ?_
  refine Xi rfl rfl rfl (fun hg0 => by subst hg0; (try simp only [Qy]); exact v_fieldAddr (off' := 1) u91 rfl sz3 (by decide) rfl rfl) ?_
  refine Xi rfl rfl rfl (fun hg0 => by subst hg0; (try simp only [Qy]); exact Vl u3 rfl) ?_
  refine Xi rfl rfl rfl (fun hg0 => by subst hg0; (try simp only [Qy]); exact v_fieldAddr (off' := 0) u91 rfl sz3 (by decide) rfl rfl) ?_
  refine Xi rfl rfl rfl (fun hg0 => by subst hg0; (try simp only [Qy]); exact Vl u3 rfl) ?_
  refine Xj rfl rfl rfl (fun hg0 => by subst hg0; (try simp only [Qy]); exact v_lss rfl rfl) fun b129 hb129 => ?_
  refine Xb rfl (v_or rfl rfl) fun b130 hb130 => ?_
  refine Xm ?_
  refine Xi rfl rfl rfl (fun hg0 => by subst hg0; (try simp only [Qy]); exact v_fieldAddr (off' := 1) u91 rfl sz3 (by decide) rfl rfl) ?_
  refine Xi rfl rfl rfl (fun hg0 => by subst hg0; (try simp only [Qy]); exact Vl u3 rfl) ?_
  refine Xj rfl rfl rfl (fun hg0 => by subst hg0; (try simp only [Qy]); exact v_gtr rfl rfl) fun b134 hb134 => ?_
  refine Xb rfl (v_or rfl rfl) fun b135 hb135 => ?_
  refine Xm ?_
  refine Xi rfl rfl rfl (fun hg0 => by subst hg0; (try simp only [Qy]); exact v_fieldAddr (off' := 1) u91 rfl sz3 (by decide) rfl rfl) ?_
  refine Xi rfl rfl rfl (fun hg0 => by subst hg0; (try simp only [Qy]); exact Vl u3 rfl) ?_
  refine Xi rfl rfl rfl (fun hg0 => by subst hg0; (try simp only [Qy]); exact v_fieldAddr (off' := 0) u91 rfl sz3 (by decide) rfl rfl) ?_
  refine Xi rfl rfl rfl (fun hg0 => by subst hg0; (try simp only [Qy]); exact Vl u3 rfl) ?_
  refine Xi rfl rfl rfl (fun hg0 => by subst hg0; (try simp only [Qy]); have g1 : (¬a ≤ bf ∧ ¬b < a) ∧ ¬99999 < b := (by have h9 := hb135.symm; simp only [Bool.or_eq_false_iff, hb130, hb123, hb129, hb134, decide_eq_false_iff_not] at h9; exact h9); exact v_subi rfl rfl rfl Zo) ?_
  refine Xj rfl rfl rfl (fun hg0 => by subst hg0; (try simp only [Qy]); exact v_gtr rfl rfl) fun b142 hb142 => ?_
  refine Xb rfl (v_or rfl rfl) fun b143 hb143 => ?_
  refine Xm ?_
  refine Xg ?_
  refine Xg ?_
  refine Xi rfl rfl rfl (fun hg0 => by subst hg0; (try simp only [Qy]); exact v_addi (c := ((4 * k + 2 : Nat) : Int)) rfl rfl (by omega) Zo) ?_
  refine Xi rfl rfl rfl (fun hg0 => by subst hg0; (try simp only [Qy]); exact v_indexAddr (j := 4 * k + 2) u22 sz3 (congrArg (fun A : Option Addr => some (Value.slice A xs.length k49)) hA44) rfl Zo rfl) ?_
  refine Xi rfl rfl rfl (fun hg0 => by subst hg0; (try simp only [Qy]); exact v_load u3 rfl rfl (at_ro (s := (wb49, notOwn ([(p27, Obj.cells ([Value.int .i64 p.first, Value.int .i64 p.days, Value.slice A1 p.lv.length c1, Value.slice A2 p.st.length c2, Value.slice none 0 0]).toArray 74 (0, 0))]))) Zh (fun q hq he => by have := hm49.lt hq; omega) (by rw [Nat.mul_one]; exact hx2))) ?_
  refine Xj rfl rfl rfl (fun hg0 => by subst hg0; (try simp only [Qy]); exact v_neq rfl rfl) fun b150 hb150 => ?_
  refine Xg ?_
  refine x_if [(b143, false)] rfl rfl rfl rfl rfl (fun hg => by obtain ⟨hg0, hg1, _⟩ := hg; subst hg0; subst hg1; (try simp only [Qy]); exact v_move rfl) ?_
  refine x_if [(b143, false)] rfl rfl rfl rfl rfl (fun hg => by obtain ⟨hg0, hg1, _⟩ := hg; subst hg0; subst hg1; (try simp only [Qy]); exact v_move rfl) ?_
  refine x_if [(b143, false)] rfl rfl rfl rfl rfl (fun hg => by obtain ⟨hg0, hg1, _⟩ := hg; subst hg0; subst hg1; (try simp only [Qy]); exact v_addi (c := ((4 * k + 2 : Nat) : Int)) rfl rfl (by omega) Zo) ?_
  refine x_if [(b143, false)] rfl rfl rfl rfl rfl (fun hg => by obtain ⟨hg0, hg1, _⟩ := hg; subst hg0; subst hg1; (try simp only [Qy]); exact v_indexAddr (j := 4 * k + 2) u22 sz3 (congrArg (fun A : Option Addr => some (Value.slice A xs.length k49)) hA44) rfl Zo rfl) ?_
  refine x_if [(b143, false)] rfl rfl rfl rfl rfl (fun hg => by obtain ⟨hg0, hg1, _⟩ := hg; subst hg0; subst hg1; (try simp only [Qy]); exact v_load u3 rfl rfl (at_ro (s := (wb49, notOwn ([(p27, Obj.cells ([Value.int .i64 p.first, Value.int .i64 p.days, Value.slice A1 p.lv.length c1, Value.slice A2 p.st.length c2, Value.slice none 0 0]).toArray 74 (0, 0))]))) Zh (fun q hq he => by have := hm49.lt hq; omega) (by rw [Nat.mul_one]; exact hx2))) ?_
  refine x_ifb [(b143, false)] rfl rfl rfl rfl rfl (fun hg => by obtain ⟨hg0, hg1, _⟩ := hg; subst hg0; subst hg1; (try simp only [Qy]); exact v_neq rfl rfl) fun b157 hb157 => ?_
  refine Xj rfl rfl rfl (fun hg0 => by subst hg0; (try simp only [Qy]); exact v_and rfl rfl) fun b158 hb158 => ?_
  refine Xb rfl (v_or rfl rfl) fun b159 hb159 => ?_
  refine Xm ?_
  refine Xg ?_
  refine Xj rfl rfl rfl (fun hg0 => by subst hg0; (try simp only [Qy]); exact v_not rfl) fun b162 hb162 => ?_
  refine Xb rfl (v_or rfl rfl) fun b163 hb163 => ?_
  refine Ze (Zt ?_)
  refine w_cond rfl (fun hc163 => ?_) (fun hc163 => ?_)
  ·simp only [hb163, hb162, hb119, hb159, hb158, hb157, hb150, hb143, hb142, hb135, hb134, hb130, hb129, hb123, Qz, ne_eq] at hc163
   have hN : ¬entB (nxE es) a b c d := by
    rintro ⟨q1, q2, q3, q4, q5, q6⟩
    rcases hc163 with ((((h | h) | h) | h) | h) | h
    all_goals first | omega | exact h q6
   have hF : openG readQ s = none := by rw [hG, hO, hdrop, opE, if_neg hN]; rfl
   refine Zs (Zr ?_)
   refine Xa ?_
   refine Xa ?_
   refine Ze (Zt (w_ret (t_ret (b_ret (t_ret (t_ret (b_ret (t_ret ?_))))))))
   exact ret2 rfl rfl rfl (fun w' hm => ⟨_, by rw [hF]; rfl, hm.base (by simp), by rw [hF]; exact rfl⟩)
  simp only [hb163, hb162, hb119, hb159, hb158, hb157, hb150, hb143, hb142, hb135, hb134, hb130, hb129, hb123, Qz, ne_eq] at hc163
  have hY : entB (nxE es) a b c d := by
   obtain ⟨⟨⟨⟨⟨h1, h2⟩, h3⟩, h4⟩, h5⟩, h6⟩ := hc163
   exact ⟨by omega, by omega, by omega, by omega, by omega, h6⟩
  refine w_skip (Zt ?_)
  refine rg_inv ([(p11, Obj.cells [Value.int .i64 a, Value.int .i64 b, Value.bool b91, Value.int .i64 d].toArray 91 (0, 0)), (p27, Obj.cells ([Value.int .i64 p.first, Value.int .i64 p.days, Value.slice A1 p.lv.length c1, Value.slice A2 p.st.length c2, rowV R es.length]).toArray 74 (0, 0))]) 10 (.flt 0 (.flt 1 (.flt 2 (.flt 3 (.flt 4 (.flt 5 (.gr 6 (.gr 7 (.flt 8 (.flt 9 .done)) .nil) .nil))))))) (by repeat (first | exact List.nil_sublist _ | apply List.Sublist.cons_cons | apply List.Sublist.cons)) Zk Zk ?_
  refine j_val rfl rfl (v_move rfl) ?_
  refine j_val rfl rfl (v_move rfl) ?_
  refine j_val rfl rfl (v_nilCheck rfl) ?_
  refine j_val rfl rfl (v_fieldAddr (off' := 4) u74 rfl sz72 (by decide) rfl rfl) ?_
  refine j_val rfl rfl (v_load u72 rfl rfl (at_ownL (vs := [Value.int .i64 p.first, Value.int .i64 p.days, Value.slice A1 p.lv.length c1, Value.slice A2 p.st.length c2, rowV R es.length]) Zh rfl)) ?_
  refine j_val rfl rfl (v_load_blk u91 rfl rfl (by first | exact .head _ | exact .tail _ (.head _) | exact .tail _ (.tail _ (.head _)) | (repeat (first | exact List.Mem.head _ | apply List.Mem.tail | apply List.mem_append_right))) (by exact sz91)) ?_
  refine j_gr ?_ j_nil
  refine x_buildSliceL rfl rfl rfl u72 sz91 zr91 rfl rfl rfl ?_
  intro p170
  refine Ze ?_
  refine j_end (by repeat (first | exact List.nil_sublist _ | apply List.Sublist.cons_cons | apply List.Sublist.cons)) ?_
  refine j_gr ?_ j_nil
  refine x_append (e := 91) [(p170, Obj.cells [Value.int .i64 a, Value.int .i64 b, Value.bool b91, Value.int .i64 d].toArray 91 (0, 0)), (p11, Obj.cells [Value.int .i64 a, Value.int .i64 b, Value.bool b91, Value.int .i64 d].toArray 91 (0, 0)), (p27, Obj.cells ([Value.int .i64 p.first, Value.int .i64 p.days, Value.slice A1 p.lv.length c1, Value.slice A2 p.st.length c2, rowV R es.length]).toArray 74 (0, 0))] (l2 := []) R (len := es.length) (xs := entsC es) rfl rfl rfl rfl (by simp only [List.append_nil]; rfl) hR u72 ap91 rfl rfl (m := 1) (news := entC ⟨a, b, b91, d⟩) (fun j hj => at_ownL (vs := entC ⟨a, b, b91, d⟩) (.head _) (by rw [Nat.zero_add]; exact List.getElem?_eq_getElem hj)) rfl Zx (by omega) fun R' hR' => ?_
  rw [List.append_nil]
  refine Ze ?_
  refine j_end (by repeat (first | exact List.nil_sublist _ | apply List.Sublist.cons_cons | apply List.Sublist.cons)) ?_
  refine j_val rfl rfl (v_nilCheck rfl) ?_
  refine j_val rfl rfl (v_fieldAddr (off' := 4) u74 rfl sz72 (by decide) rfl rfl) ?_
  refine j_done ?_
  refine x_store (cs := [Value.int .i64 p.first, Value.int .i64 p.days, Value.slice A1 p.lv.length c1, Value.slice A2 p.st.length c2, rowV R es.length]) (off := 4) (e := 74) (l2 := rowO 91 R') [(p170, Obj.cells [Value.int .i64 a, Value.int .i64 b, Value.bool b91, Value.int .i64 d].toArray 91 (0, 0)), (p11, Obj.cells [Value.int .i64 a, Value.int .i64 b, Value.bool b91, Value.int .i64 d].toArray 91 (0, 0))] rfl rfl rfl rfl sz72 rfl (by show 4 + 1 ≤ 5; decide) ?_
  refine Ze (b_norm (Zt (Zr ?_)))
  refine Xm ?_
  refine Xv rfl (v_addi (c := ((4 * (k + 1) : Nat) : Int)) rfl rfl (by omega) Zo) ?_
  refine Xa ?_
  refine Ze ?_
  have e1 : (es ++ [(⟨a, b, b91, d⟩ : Ent)]).length = es.length + 1 := by simp
  exact l_norm (x := (k, es, R)) (μ := fun x : Nat × List Ent × RowS => xs.length / 4 - x.1) (k + 1, es ++ [⟨a, b, b91, d⟩], R') (by
   dsimp only
   obtain ⟨y1, y2, y3, y4, y5, y6⟩ := hY
   refine ⟨hkl, ?_, by rw [e1, hlk], by rw [nxE_snoc]; exact ⟨by show 0 ≤ b + 1; omega, by show b + 1 ≤ 100000; omega⟩, by rw [e1, entsC_app]; simpa [entsC] using hR', fun y hy => ?_⟩
   ·rw [hO, hdrop, opE, if_pos ⟨y1, y2, y3, y4, y5, y6⟩, show 4 * (k + 1) = 4 * k + 4 by omega, hb91, Option.map_map, nxE_snoc]
    congr 1
    funext l
    simp
   ·rcases List.mem_append.1 hy with hy | hy
    ·exact hok y hy
    rw [List.mem_singleton.1 hy]; exact ⟨by show 0 ≤ a; omega, y2, y4, y3, y6⟩) (by simp only; omega) Zu (fun w1 h => by
   dsimp only
   rw [e1]
   exact h.less ((List.sublist_cons_self _ _).trans (List.sublist_cons_self _ _)) (fun _ h => h))
 simp only [hb74, Qz, ne_eq] at hc74
 obtain rfl : k = xs.length / 4 := by omega
 refine w_exit ?_
 refine t_exit ?_
 refine t_exit ?_
 refine b_hit ?_
 refine Zt (Zs (Zr ?_))
 refine Xm ?_
 refine Xa ?_
 refine Xa ?_
 refine Ze (Zt (w_ret ?_))
 have hF : openG readQ s = some (p, es) := by
  rw [hG, hO, List.drop_eq_nil_of_le (by omega)]
  show (((opE (nxE es) []).map (es ++ ·)).map fun es => (p, es)) = _
  simp [opE]
 refine ret2 rfl rfl rfl (fun w' hm => ⟨_, by rw [hF]; rfl, hm.base (by simp), ?_⟩)
 rw [hF]
 obtain ⟨g1, g2, g3, g4⟩ := patRd.keep hpr (Kept.out hm Zh)
 exact ⟨p27, _, _, _, rfl, hm.apart (p27, _) (.head _) (w, fun _ => True) Zh trivial, fun j hj => by
  rw [hm.cell_own (b := p27) (.head _) j, List.getElem?_toArray]; exact List.getElem?_eq_getElem hj, g3, g4, g1, g2, ents_rd (e := 91) hR rfl (fun x hx => (hok x hx).in) hm (fun q hq => List.mem_cons_of_mem _ hq) (fun q hq => hm.apart q (List.mem_cons_of_mem _ hq) (w, fun _ => True) Zh trivial)⟩
end Go.Proofs.YtaniaihoodgmpaaGreatDoor

namespace Go.Proofs.YtaniaihoodgmpaaGreatDoor
open Go.RowKit Go.PK
theorem v_pneq {P : Program} {n : Nat} {l : List (Nat × Value)} {own : List (Nat × Obj)} {ro : List Snap} {x y : Operand} {t t' ty T : TypeId} {o : Option Addr} (ht : P.underlying t = some (.pointer T)) (hx : ev l x = some (.pointer o)) (hy : ev l y = some (.pointer none)) : OpV P n l own ro (.binOp .neq t x y t') ty (.bool o.isSome) := by
 intro A w q ha _ hq _
 have h : ∀ d : Nat, (Op.equalIn (d + 1) t (.pointer o) (.pointer none)).run P w = .ok o.isNone w := fun d => by
  cases o <;> simp [Op.equalIn, run_underlying ht]
 have h2 : (Op.equal t (.pointer o) (.pointer none)).run P w = .ok o.isNone w := h 9999
 cases o <;> simp [execOp, hq, ha.eval hx, ha.eval hy, eqGuard, binOp, h2]
open Go.RowKit Go.PK
section
variable {P : Program} {n : Nat} {l : List (Nat × Value)} {own : List (Nat × Obj)} {ro : List Snap} {lops : List Oper} {Q : Exit → Act → World → Prop} {K : Act → World → Prop} {rest : List (Option Bool × Nat)} {k : Option Bool} {i d j dj : Nat} {want : Bool} {op : Op} {ty : TypeId} {pos : String} {af : Array Edge}
theorem x_noU (ho : lops[i]? = some ⟨some d, op, ty, pos, af, some (j, want)⟩) (hj : (lops[j]?).bind (·.dst) = some dj) (hb : l.lookup dj = some undef) (hd : decide (d < n) = true)
  (h : WX P lops.toArray Q K rest n ((d, undef) :: l) own ro) : WX P lops.toArray Q K ((k, i) :: rest) n l own ro :=
 x_pass ho (fun a ha => by
  simp only [Region.wanted, yielded, List.getElem?_toArray, hj, Option.bind_some, ha.at_ _ _ hb]
  cases want <;> rfl) rfl hd h
end
theorem write_ne {p : Pat} (h : rightQ p) : writeQ p ≠ ⟨#[]⟩ := fun h0 => by
 obtain ⟨s0, l, hp, _⟩ := right_pat h
 have hw := congrArg List.length (write_bl (hp ▸ h))
 rw [← hp, h0] at hw
 unfold headT at hw
 simp only [List.length_append, bl_len, show sEvery.size = 6 from rfl] at hw
 have h9 : (⟨#[]⟩ : ByteArray).size = 0 := rfl
 omega
theorem read_back {t : ByteArray} (h : (readQ t).2 = 0) : rightQ (readQ t).1 ∧ writeQ (readQ t).1 = t := by
 unfold readQ at h ⊢
 by_cases hc : rdOK t
 ·rw [if_pos hc]
  obtain ⟨h1, h2, h3⟩ := hc
  refine ⟨Classical.byContradiction fun hn => ?_, h3⟩
  unfold writeQ at h3
  rw [if_neg hn] at h3
  exact h2 h3.symm
 rw [if_neg hc] at h
 exact absurd h (by decide)
theorem wr_sz4 {p : Pat} (h : rightQ p) : (writeQ p).size ≤ 400 := by
 have h1 := h.1.1
 have h2 := h.1.2.1
 have h3 := h.1.2.2.1
 have key : ∀ j, j < p.lv.length → in64 (p.lv.getD j 0) ∧ in64 (p.st.getD j 0) := fun j hj => by
  by_cases h0 : j = 0
  ·subst h0
   have a := h.1.2.2.2
   unfold in64; omega
  have := h.at (j := j) (by omega) hj
  unfold in64; omega
 have hz := wrTo_sz p (fun d hd => by obtain ⟨j, hj, rfl⟩ := List.getElem_of_mem hd; rw [← getD_lt hj]; exact (key j (by omega)).2) (fun d hd => by obtain ⟨j, hj, rfl⟩ := List.getElem_of_mem hd; rw [← getD_lt hj]; exact (key j hj).1) (by have := h.2.2.1; unfold in64; omega) h3 h1 (p.lv.length - 1) (by omega)
 unfold writeQ
 rw [if_pos h]
 omega
theorem ints_sz {l : List Int} (hl : l.length ≤ 80) (hin : ∀ n ∈ l, in64 n) : (⟨(intsG l).toArray⟩ : ByteArray).size ≤ 810 := by
 rw [mk_size, ← intsT_all]
 have := intsT_len (l := l) (by omega) hin _ (Nat.le_refl _)
 omega
theorem pk2_sz {a : ByteArray} {l : List Int} (ha : a.size ≤ 810) (hl : l.length ≤ 80) (hin : ∀ n ∈ l, in64 n) : (⟨(packG [a, ⟨(intsG l).toArray⟩]).toArray⟩ : ByteArray).size ≤ 1650 := by
 rw [mk_size, ← packT_all]
 have := packT_len (l := [a, ⟨(intsG l).toArray⟩]) (N := 810) (by simp) (fun s hs => by rcases List.mem_cons.1 hs with rfl | hs; (· exact ha); rw [List.mem_singleton.1 hs]; exact ints_sz hl hin) (by decide) 2 (Nat.le_refl _)
 exact Nat.le_trans this (by decide)
theorem enc_sz {p : Pat} {es : List Ent} (hq : rightQ p) (hs : srt es) (hl : es.length ≤ 20) : (encQ p es).size ≤ 1650 := pk2_sz (Nat.le_trans (wr_sz4 hq) (by decide)) (by rw [entsI_len]; omega) (entsI_in fun x hx => (hs.2 x hx).in)
theorem enc_pos (p : Pat) (es : List Ent) : 1 ≤ (encQ p es).size := by
 unfold encQ packG
 rw [mk_size, List.length_append]
 have := numG_pos [writeQ p, ⟨(intsG (entsI es)).toArray⟩].length
 omega
theorem open_len {rd : ByteArray → Pat × Int} (hrd : ∀ t, (rd t).2 = 0 → rightQ (rd t).1 ∧ writeQ (rd t).1 = t) {s : ByteArray} {p : Pat} {es : List Ent} (h : openG rd s = some (p, es)) : es.length * 4 ≤ s.size := by
 have h1 := (open_back hrd h).1
 have h2 : (encQ p es).size = (packG [writeQ p, ⟨(intsG (entsI es)).toArray⟩]).length := mk_size _
 have h3 : ∀ a b : ByteArray, b.size ≤ (packG [a, b]).length := fun a b => by
  unfold packG
  simp only [List.flatMap_cons, List.flatMap_nil, List.length_append, bl_len]
  omega
 have h4 : (⟨(intsG (entsI es)).toArray⟩ : ByteArray).size = (intsG (entsI es)).length := mk_size _
 have h5 : ∀ l : List Int, l.length ≤ (l.flatMap fun n => numG (sgn n)).length := fun l => by
  induction l with
  | nil => exact Nat.le_refl _
  | cons x l ih => rw [List.flatMap_cons, List.length_append, List.length_cons]; have := numG_pos (sgn x); omega
 have h6 := h5 (entsI es)
 have h7 : (intsG (entsI es)).length = (numG (entsI es).length).length + ((entsI es).flatMap fun n => numG (sgn n)).length := by unfold intsG; rw [List.length_append]
 have h8 := h3 (writeQ p) ⟨(intsG (entsI es)).toArray⟩
 rw [entsI_len] at h6
 rw [← h1]
 omega
set_option maxHeartbeats 8000000 in
theorem lawOpens {v va vr : Value} {l : List Int} {ac : List ActD} {raw : List Int} {D : Nat → Prop} (w : World) (hl : sliceRd tyI D w v l) (hac : sliceRd tyAct D w va ac) (hraw : sliceRd tyI D w vr raw) (hL : LD w) :
  Calls Tryz.prog 6 #[v, va, vr] w fun e w' => e = .returned (.bool (true)) ∧ Later w w' := by
 obtain ⟨A0, c0, rfl, hlc0, hmx0, -⟩ := id hl
 obtain ⟨AC, cC, rfl, -⟩ := id hac
 obtain ⟨AR, cR, rfl, hlcR, -, -⟩ := id hraw
 obtain ⟨p, hP⟩ : ∃ p, patL l = p := ⟨_, rfl⟩
 have hq : rightQ p := hP ▸ patL_right l
 refine enter (vs := [.slice A0 l.length c0, .slice AC ac.length cC, .slice AR raw.length cR]) Tryz.func6 rfl Tryz.ntmps6 rfl ?_
 refine Zs (Zr ?_)
 refine Xa ?_
 refine Ze (Zt (Zs (Zr ?_)))
 refine x_callb rfl rfl rfl Tryz.func8 Zk rfl (fun w1 hw1 => c_sanity w1 (hL.later (hw1.base (by simp)))) fun b24 hb24 => ?_
 obtain rfl : b24 = true := hb24
 refine Xa ?_
 refine Ze (Zt (Zs (Zr ?_)))
 refine Xm ?_
 refine x_call (R := fun v wa wb => ∃ v1 v2, v = .agg #[.int .i64 p.first, .int .i64 p.days, v1, v2] ∧ patRd (fun b => wa.heap.size ≤ b) wb p v1 v2) rfl rfl rfl Tryz.func9 Zk rfl (fun w1 hw1 => by
  have h := c_pattern w1 (hl.keep (Kept.later (hw1.base (by simp))))
  rw [hP] at h
  exact h.mono fun e w2 ⟨v1, v2, h1, h2, h3⟩ => ⟨_, h1, h2, v1, v2, rfl, h3⟩) ?_
 intro v26 wa26 wb26 hm26 hl26 hR26
 obtain ⟨v1, v2, rfl, hp1, hp2, hpa, hpb⟩ := hR26
 obtain ⟨A1, c1, rfl, -⟩ := id hpa
 obtain ⟨A2, c2, rfl, -⟩ := id hpb
 obtain ⟨f1, f2⟩ := patL_rng l
 rw [hP] at f1 f2
 refine x_alloc rfl rfl rfl zr26 ?_
 intro p8
 refine x_store0 [] rfl rfl rfl rfl sz26 rfl rfl ?_
 refine Ze (Zt (Zs (Zr ?_)))
 refine Xv rfl (v_load_blk (e := 26) (fz := (0, 0)) (cs := ([Value.int .i64 p.first, Value.int .i64 p.days, Value.slice A1 p.lv.length c1, Value.slice A2 p.st.length c2]).toArray) u26 rfl rfl Zi (by exact sz26)) ?_
 refine x_own (τ := Nat) (fun x => .pointer (some ⟨x, 0, none⟩)) (fun _ => True) (fun x => (x, Obj.cells ([Value.int .i64 p.first, Value.int .i64 p.days, Value.slice A1 p.lv.length c1, Value.slice A2 p.st.length c2, Value.slice none 0 0]).toArray 74 (0, 0)) :: [(p8, Obj.cells ([Value.int .i64 p.first, Value.int .i64 p.days, Value.slice A1 p.lv.length c1, Value.slice A2 p.st.length c2]).toArray 26 (0, 0))]) rfl rfl rfl Tryz.func11 Zk rfl (fun w1 hw1 => (c_rNew p w1 (⟨hp1, hp2, keep_new hpa hw1 Zh hm26, keep_new hpb hw1 Zh hm26⟩ : patRd (fun _ => True) w1 p (Value.slice A1 p.lv.length c1) (Value.slice A2 p.st.length c2)) hq).mono fun e w2 ⟨bq, h1, h2, h3⟩ => ⟨bq, h1, h2, trivial, (hw1.join2 h3).to (by first | rfl | (simp; done) | (simp; rfl))⟩) fun bw _ => ?_
 refine Xa ?_
 refine Ze (Zt (Zs (Zs (Zr ?_))))
 refine Xa ?_
 refine Ze (Zt (w_block ?_))
 refine w_loop (σ := Nat × List Ent × RowS) (fun x => x.1 ≤ ac.length ∧ x.1 ≤ 20 ∧ x.2.1.length ≤ x.1 ∧ srt x.2.1 ∧ rowOK 4 x.2.2 x.2.1.length (entsC x.2.1)) (fun x => [(1, Value.slice AC ac.length cC), (2, Value.slice AR raw.length cR), (7, Value.bool true), (8, Value.pointer (some ⟨p8, 0, none⟩)), (9, Value.pointer (some ⟨bw, 0, none⟩)), (10, Value.int .i64 (x.1 : Nat))]) (fun x => (bw, Obj.cells ([Value.int .i64 p.first, Value.int .i64 p.days, Value.slice A1 p.lv.length c1, Value.slice A2 p.st.length c2, rowV x.2.2 x.2.1.length]).toArray 74 (0, 0)) :: (rowO 91 x.2.2 ++ [(p8, Obj.cells ([Value.int .i64 p.first, Value.int .i64 p.days, Value.slice A1 p.lv.length c1, Value.slice A2 p.st.length c2]).toArray 26 (0, 0))])) (fun x => [(wb26, notOwn []), (w, fun _ => True)]) (fun x => 20 - x.1) ((0, [], none)) (⟨Nat.zero_le _, Nat.zero_le _, Nat.le_refl _, srt_nil, rowOK_nil⟩) (l_start Zu (fun w1 h => h)) ?_
 rintro ⟨k, es, G⟩ ⟨hka, hk20, hel, hsrt, hG⟩
 refine w_state ([(1, Value.slice AC ac.length cC), (2, Value.slice AR raw.length cR), (7, Value.bool true), (8, Value.pointer (some ⟨p8, 0, none⟩)), (9, Value.pointer (some ⟨bw, 0, none⟩)), (10, Value.int .i64 (k : Nat))]) ((bw, Obj.cells ([Value.int .i64 p.first, Value.int .i64 p.days, Value.slice A1 p.lv.length c1, Value.slice A2 p.st.length c2, rowV G es.length]).toArray 74 (0, 0)) :: (rowO 91 G ++ [(p8, Obj.cells ([Value.int .i64 p.first, Value.int .i64 p.days, Value.slice A1 p.lv.length c1, Value.slice A2 p.st.length c2]).toArray 26 (0, 0))])) ([(wb26, notOwn []), (w, fun _ => True)]) ?_
 dsimp only at hka hk20 hel hsrt hG
 refine Zs (Zs (Zr ?_))
 refine Xm ?_
 refine Xm ?_
 refine Xv rfl (v_len_slice u23 rfl) ?_
 refine Xb rfl (v_lss rfl rfl) fun b32 hb32 => ?_
 refine Xm ?_
 refine Xg ?_
 refine Xj rfl rfl rfl (fun hg0 => by subst hg0; (try simp only [Qy]); exact v_lss rfl rfl) fun b35 hb35 => ?_
 refine Xb rfl (v_and rfl rfl) fun b36 hb36 => ?_
 refine Ze (Zt ?_)
 refine w_cond rfl (fun hc36 => ?_) (fun hc36 => ?_)
 ·simp only [hb36, hb35, hb32, Qz, ne_eq] at hc36
  have hkl : k < ac.length := by omega
  obtain ⟨b0, o0, hA0, _, hca, hai⟩ := act_at hac hkl
  have hca' : ∀ j (hj : j < (actC ac[k]).length), At ((bw, Obj.cells ([Value.int .i64 p.first, Value.int .i64 p.days, Value.slice A1 p.lv.length c1, Value.slice A2 p.st.length c2, rowV G es.length]).toArray 74 (0, 0)) :: (rowO 91 G ++ [(p8, Obj.cells ([Value.int .i64 p.first, Value.int .i64 p.days, Value.slice A1 p.lv.length c1, Value.slice A2 p.st.length c2]).toArray 26 (0, 0))])) ([(wb26, notOwn []), (w, fun _ => True)]) b0 (o0 + k * 6 + j) (actC ac[k])[j] := fun j hj => at_ro (s := (w, fun _ => True)) (by simp) trivial (hca j hj)
  obtain ⟨es', cd, hst⟩ : ∃ es' cd, takeQ p es (callT p ac[k]) (callD p ac[k]) = (es', cd) := ⟨_, _, rfl⟩
  obtain ⟨hs9, hl9⟩ := take_srt (p := p) (text := callT p ac[k]) (day := callD p ac[k]) hsrt
  rw [hst] at hs9 hl9
  dsimp only at hs9 hl9
  refine w_skip (Zt (Zs (w_block (Zs ?_))))
  refine rg_draw 11 [(true, 0), (true, 1), (true, 2), (true, 3), (true, 4), (true, 5), (true, 6), (true, 7), (true, 8), (true, 9), (true, 10)] Zk Zk ?_
  refine Xm ?_
  refine Xm ?_
  refine Xv rfl (v_indexAddr (j := k) u23 sz34 (congrArg (fun A => some (Value.slice A ac.length cC)) hA0) rfl Zo rfl) ?_
  refine Xv rfl (v_loadN (vs := actC ac[k]) u34 rfl sz34 rfl (fun j hj => hca' j hj)) ?_
  refine Xv rfl (v_load_blk (e := 26) (fz := (0, 0)) (cs := ([Value.int .i64 p.first, Value.int .i64 p.days, Value.slice A1 p.lv.length c1, Value.slice A2 p.st.length c2]).toArray) u26 rfl rfl Zi (by exact sz26)) ?_
  refine x_callv (v := .tuple #[.string (callT p ac[k]), .int .i64 (callD p ac[k])]) rfl rfl rfl Tryz.func12 Zk rfl (fun w1 hw1 => c_Call p ac[k] w1 (⟨hp1, hp2, keep_new hpa hw1 Zh hm26, keep_new hpb hw1 Zh hm26⟩ : patRd (fun _ => True) w1 p (Value.slice A1 p.lv.length c1) (Value.slice A2 p.st.length c2)) hq hai) ?_
  refine Xm ?_
  refine Xv rfl (v_extract rfl rfl) ?_
  refine Xv rfl (v_extract rfl rfl) ?_
  refine Xa ?_
  refine Xa ?_
  refine Ze (Zt (Zr ?_))
  refine Xm ?_
  refine Xm ?_
  refine Xm ?_
  refine x_turnf (v := Value.int .i64 cd) (fun G' : RowS => rowOK 4 G' es'.length (entsC es')) (fun G' => (bw, Obj.cells ([Value.int .i64 p.first, Value.int .i64 p.days, Value.slice A1 p.lv.length c1, Value.slice A2 p.st.length c2, rowV G' es'.length]).toArray 74 (0, 0)) :: (rowO 91 G' ++ [(p8, Obj.cells ([Value.int .i64 p.first, Value.int .i64 p.days, Value.slice A1 p.lv.length c1, Value.slice A2 p.st.length c2]).toArray 26 (0, 0))])) rfl rfl Tryz.func14 Zk rfl (fun w1 hw1 => by
   have h := c_rTake (l2 := [(p8, Obj.cells ([Value.int .i64 p.first, Value.int .i64 p.days, Value.slice A1 p.lv.length c1, Value.slice A2 p.st.length c2]).toArray 26 (0, 0))]) p es (callT p ac[k]) (callD p ac[k]) hw1 (fun w1 own1 hw1 => (⟨hp1, hp2, keep_new hpa hw1 Zh hm26, keep_new hpb hw1 Zh hm26⟩ : patRd (fun _ => True) w1 p (Value.slice A1 p.lv.length c1) (Value.slice A2 p.st.length c2))) hG hsrt (by have := callT_sz hq hai; omega) (callD_in p _) (by omega)
   rw [hst] at h
   exact h.mono fun e w2 ⟨G', h1, h2, h3⟩ => ⟨h1, G', h2, h3⟩) ?_
  intro G' hG'
  refine Ze (b_norm (Zt (Zr ?_)))
  refine Xm ?_
  refine Xv rfl (v_addi rfl rfl rfl Zo) ?_
  refine Xa ?_
  refine Ze ?_
  exact l_norm (x := (k, es, G)) (μ := fun q : Nat × List Ent × RowS => 20 - q.1) (k + 1, es', G') ⟨by dsimp only; omega, by dsimp only; omega, by dsimp only; omega, hs9, hG'⟩ (by simp only; omega) Zu (fun w1 h => h)
 obtain ⟨xx, hxx⟩ : ∃ s, encQ p es = s := ⟨_, rfl⟩
 have hxz : xx.size ≤ 1650 := hxx ▸ enc_sz hq hsrt (by omega)
 have hx1 : 1 ≤ xx.size := hxx ▸ enc_pos p es
 have hop : openG readQ xx = some (p, es) := hxx ▸ open_enc (prog_read hq) (write_ne hq) (by have := wr_sz4 hq; omega) hsrt (by omega)
 refine w_exit ?_
 refine t_exit ?_
 refine t_exit ?_
 refine b_hit ?_
 refine Zt (Zs (Zr ?_))
 refine Xm ?_
 refine x_callv (v := Value.string xx) rfl rfl rfl Tryz.func22 Zk rfl (fun w1 hw1 => by rw [← hxx]; exact c_rEnc p es w1 (serRd_own (e := 74) (e2 := 91) hw1 Zi (⟨hp1, hp2, keep_new hpa hw1 Zh hm26, keep_new hpb hw1 Zh hm26⟩ : patRd (fun _ => True) w1 p (Value.slice A1 p.lv.length c1) (Value.slice A2 p.st.length c2)) hG (fun x hx => (hsrt.2 x hx).in) (fun q hq => by repeat (first | exact List.mem_append_left _ hq | exact hq | apply List.mem_append_right | apply List.Mem.tail))) (by omega)) ?_
 refine Xa ?_
 refine Ze (Zt (Zs (Zr ?_)))
 refine Xm ?_
 refine x_call (R := fun v wa wb => ∃ b v1 v2 v3, v = .tuple #[.pointer (some ⟨b, 0, none⟩), .int .i64 0] ∧ SerRdD (fun b => wa.heap.size ≤ b) wb b p es v1 v2 v3) rfl rfl rfl Tryz.func23 Zk rfl (fun w1 hw1 => by
  have h := c_Open xx w1 (by omega) (hL.later (hw1.base (by simp)))
  rw [hop] at h
  exact h.mono fun e w2 ⟨v, h1, h2, b, v1, v2, v3, h3, h4⟩ => ⟨_, h1, h2, b, v1, v2, v3, by rw [h3]; rfl, h4⟩) ?_
 intro v56 wa56 wb56 hm56 hl56 hR56
 obtain ⟨bo, v1o, v2o, v3o, rfl, hSo⟩ := hR56
 have hdd : in64 (p.first + 900) := by unfold in64; omega
 refine Xm ?_
 refine Xv rfl (v_extract rfl rfl) ?_
 refine Xv rfl (v_extract rfl rfl) ?_
 refine Xa ?_
 refine Xa ?_
 refine Ze (Zt (Zs (Zs ?_)))
 refine rg_draw 34 [(true, 0), (true, 1), (true, 2), (true, 3), (true, 4), (true, 5), (true, 6), (true, 7), (true, 8), (true, 9), (true, 10), (true, 11), (true, 12), (true, 13), (true, 15), (false, 14), (false, 16), (true, 17), (true, 18), (true, 19), (true, 20), (true, 21), (true, 22), (true, 23), (true, 24), (true, 26), (true, 27), (true, 28), (true, 29), (false, 25), (false, 30), (true, 31), (true, 32), (true, 33)] Zk Zk ?_
 refine Xm ?_
 refine Xb rfl (v_neq rfl rfl) fun b60 hb60 => ?_
 obtain rfl : b60 = false := hb60.trans (decide_eq_false (fun h => h rfl))
 refine Xm ?_
 refine x_valg rfl rfl rfl rfl rfl (v_move rfl) ?_
 refine x_boolg rfl rfl rfl rfl rfl (v_pnil (o := some ⟨bo, 0, none⟩) u28 rfl rfl) fun b63 hb63 => ?_
 obtain rfl : b63 = false := hb63
 refine Xb rfl (v_or rfl rfl) fun b64 hb64 => ?_
 obtain rfl : b64 = false := hb64
 refine Xm ?_
 refine x_valg rfl rfl rfl rfl rfl (v_move rfl) ?_
 refine x_callvg (v := Value.string xx) rfl rfl rfl rfl rfl Tryz.func21 Zk rfl (fun w1 hw1 => by rw [← hxx]; exact c_Enc p es w1 (hSo.new hw1 Zi hm56) (by omega) (hL.later (hw1.base (by simp)))) ?_
 refine x_valg rfl rfl rfl rfl rfl (v_move rfl) ?_
 refine x_boolg rfl rfl rfl rfl rfl (v_sneq rfl rfl) fun b69 hb69 => ?_
 obtain rfl : b69 = false := hb69.trans (decide_eq_false (fun h => h rfl))
 refine Xb rfl (v_or rfl rfl) fun b70 hb70 => ?_
 obtain rfl : b70 = false := hb70
 refine Xm ?_
 refine x_valg rfl rfl rfl rfl rfl (v_move rfl) ?_
 refine x_valg rfl rfl rfl rfl rfl (v_move rfl) ?_
 refine x_call_g (R := fun v wa wb => sliceRd tyIss (fun b => wa.heap.size ≤ b) wb v (heldP p es)) rfl rfl rfl rfl rfl Tryz.func19 Zk rfl (fun w1 hw1 => c_Held p es w1 (hSo.new hw1 Zi hm56) (fun _ => hq) hsrt.2 (by omega)) fun v73 wa73 wb73 hm73 hl73 hR73 => ?_
 obtain ⟨Aq73, cq73, rfl, -⟩ := id hR73
 refine x_call_g (R := fun v wa wb => sliceRd tyIss (fun b => wa.heap.size ≤ b) wb v (heldP p es)) rfl rfl rfl rfl rfl Tryz.func20 Zk rfl (fun w1 hw1 => c_rHeld p es w1 (serRd_own (e := 74) (e2 := 91) hw1 Zi (⟨hp1, hp2, keep_new hpa hw1 Zh hm26, keep_new hpb hw1 Zh hm26⟩ : patRd (fun _ => True) w1 p (Value.slice A1 p.lv.length c1) (Value.slice A2 p.st.length c2)) hG (fun x hx => (hsrt.2 x hx).in) (fun q hq => by repeat (first | exact List.mem_append_left _ hq | exact hq | apply List.mem_append_right | apply List.Mem.tail))) (fun _ => hq) hsrt.2 (by omega)) fun v75 wa75 wb75 hm75 hl75 hR75 => ?_
 obtain ⟨Aq75, cq75, rfl, -⟩ := id hR75
 refine x_callbg rfl rfl rfl rfl rfl Tryz.func16 Zk rfl (fun w1 hw1 => c_SameI w1 (keep_new hR73 hw1 Zi hm73) (keep_new hR75 hw1 (.head _) hm75)) fun b76 hb76 => ?_
 obtain rfl : b76 = true := hb76.trans (decide_eq_true rfl)
 refine x_boolg rfl rfl rfl rfl rfl (v_not rfl) fun b77 hb77 => ?_
 obtain rfl : b77 = false := hb77
 refine Xb rfl (v_or rfl rfl) fun b78 hb78 => ?_
 obtain rfl : b78 = false := hb78
 refine Xm ?_
 refine x_valg rfl rfl rfl rfl rfl (v_move rfl) ?_
 refine x_valg rfl rfl rfl rfl rfl (v_fieldAddr (off' := 0) u26 rfl sz3 (by decide) rfl rfl) ?_
 refine x_valg rfl rfl rfl rfl rfl (v_load u3 rfl rfl (at_ownL (vs := [Value.int .i64 p.first, Value.int .i64 p.days, Value.slice A1 p.lv.length c1, Value.slice A2 p.st.length c2]) Zi rfl)) ?_
 refine x_valg rfl rfl rfl rfl rfl (v_addi (c := p.first + 900) rfl rfl (by omega) Zo) ?_
 refine x_valg rfl rfl rfl rfl rfl (v_move rfl) ?_
 refine x_valg rfl rfl rfl rfl rfl (v_fieldAddr (off' := 0) u26 rfl sz3 (by decide) rfl rfl) ?_
 refine x_valg rfl rfl rfl rfl rfl (v_load u3 rfl rfl (at_ownL (vs := [Value.int .i64 p.first, Value.int .i64 p.days, Value.slice A1 p.lv.length c1, Value.slice A2 p.st.length c2]) Zi rfl)) ?_
 refine x_valg rfl rfl rfl rfl rfl (v_addi (c := p.first + 900) rfl rfl (by omega) Zo) ?_
 refine x_call_g (R := fun v wa wb => sliceRd tyIss (fun b => wa.heap.size ≤ b) wb v (missP p es (p.first + 900))) rfl rfl rfl rfl rfl Tryz.func17 Zk rfl (fun w1 hw1 => c_Missing p es (p.first + 900) w1 (hSo.new hw1 Zi hm56) hsrt.2 (by omega) hdd (hL.later (hw1.base (by simp)))) fun v84 wa84 wb84 hm84 hl84 hR84 => ?_
 obtain ⟨Aq84, cq84, rfl, -⟩ := id hR84
 refine x_call_g (R := fun v wa wb => sliceRd tyIss (fun b => wa.heap.size ≤ b) wb v (missP p es (p.first + 900))) rfl rfl rfl rfl rfl Tryz.func18 Zk rfl (fun w1 hw1 => c_rMissing p es (p.first + 900) w1 (serRd_own (e := 74) (e2 := 91) hw1 Zi (⟨hp1, hp2, keep_new hpa hw1 Zh hm26, keep_new hpb hw1 Zh hm26⟩ : patRd (fun _ => True) w1 p (Value.slice A1 p.lv.length c1) (Value.slice A2 p.st.length c2)) hG (fun x hx => (hsrt.2 x hx).in) (fun q hq => by repeat (first | exact List.mem_append_left _ hq | exact hq | apply List.mem_append_right | apply List.Mem.tail))) hsrt (by omega) hdd) fun v89 wa89 wb89 hm89 hl89 hR89 => ?_
 obtain ⟨Aq89, cq89, rfl, -⟩ := id hR89
 refine x_callbg rfl rfl rfl rfl rfl Tryz.func16 Zk rfl (fun w1 hw1 => c_SameI w1 (keep_new hR84 hw1 Zi hm84) (keep_new hR89 hw1 (.head _) hm89)) fun b90 hb90 => ?_
 obtain rfl : b90 = true := hb90.trans (decide_eq_true rfl)
 refine x_boolg rfl rfl rfl rfl rfl (v_not rfl) fun b91 hb91 => ?_
 obtain rfl : b91 = false := hb91
 refine Xb rfl (v_or rfl rfl) fun b92 hb92 => ?_
 obtain rfl : b92 = false := hb92
 refine Ze (Zt ?_)
 refine w_cond rfl (fun hc92 => ?_) (fun hc92 => ?_)
 ·cases hc92
 skip
 refine w_skip (Zt (Zs (Zr ?_)))
 refine Xm ?_
 refine Xm ?_
 refine Xv rfl (v_len_slice u22 rfl) ?_
 refine Xv (v := Value.int .i64 ((min raw.length 30 : Nat) : Int)) rfl (by rw [show ((min raw.length 30 : Nat) : Int) = min (raw.length : Int) 30 by omega]; exact v_min rfl rfl) ?_
 refine Xv rfl (v_scut_to (j := min raw.length 30) u22 sz3 rfl rfl (by omega)) ?_
 have hm30 : (raw.take (min raw.length 30)).length = min raw.length 30 := by rw [List.length_take]; omega
 obtain ⟨rs, hrs0⟩ : ∃ rs, raw.take (min raw.length 30) = rs := ⟨_, rfl⟩
 have hrs : sliceRd tyI D w (.slice AR rs.length cR) rs := by
  rw [← hrs0, hm30]
  exact sliceRd.take _ (by omega) hraw
 have hrl : rs.length ≤ 30 := by rw [← hrs0, hm30]; omega
 have hrc : rs.length ≤ cR := by rw [← hrs0, hm30]; omega
 have hri := rd_in hrs
 rw [← hm30, hrs0]
 refine Xa ?_
 refine Ze (Zt (Zs (Zr ?_)))
 refine Xv rfl (v_load_blk (e := 26) (fz := (0, 0)) (cs := ([Value.int .i64 p.first, Value.int .i64 p.days, Value.slice A1 p.lv.length c1, Value.slice A2 p.st.length c2]).toArray) u26 rfl rfl Zi (by exact sz26)) ?_
 refine x_callv rfl rfl rfl Tryz.func25 Zk rfl (fun w1 hw1 => c_rWrite p w1 (⟨hp1, hp2, keep_new hpa hw1 Zh hm26, keep_new hpb hw1 Zh hm26⟩ : patRd (fun _ => True) w1 p (Value.slice A1 p.lv.length c1) (Value.slice A2 p.st.length c2))) ?_
 refine Xm ?_
 refine x_callv rfl rfl rfl Tryz.func26 Zk rfl (fun w1 hw1 => c_rInts w1 (hrs.keep (Kept.later (hw1.base (by simp)))) (by omega)) ?_
 refine x_buildSliceL (cs := [Value.string (writeQ p), Value.string ⟨(intsG rs).toArray⟩]) rfl rfl rfl u55 sz9 zr9 rfl rfl rfl ?_
 intro p102
 obtain ⟨y1, hy1⟩ : ∃ y : ByteArray, (⟨(packG [writeQ p, ⟨(intsG rs).toArray⟩]).toArray⟩ : ByteArray) = y := ⟨_, rfl⟩
 have hzy1 : y1.size ≤ 1650 := hy1 ▸ pk2_sz (Nat.le_trans (wr_sz4 hq) (by decide)) (by omega) hri
 refine x_callv (v := Value.string y1) rfl rfl rfl Tryz.func24 Zk rfl (fun w1 hw1 => by
  rw [← hy1]
  have hz1 : (writeQ p).size ≤ 810 := (Nat.le_trans (wr_sz4 hq) (by decide))
  have hz2 := ints_sz (l := rs) (by omega) hri
  exact c_rPack (l := [writeQ p, ⟨(intsG rs).toArray⟩]) (D := fun _ => True) w1 (row1_rd (T := tyStr) (e := 9) (r := some (p102, [writeQ p, ⟨(intsG rs).toArray⟩].map Value.string, 2)) Value.string rfl (rowOK_lit rfl (by simp [maxLen])) rfl (fun D9 w9 s hs => ⟨rfl, by unfold okS; rcases List.mem_cons.1 hs with rfl | hs; (· omega); rw [List.mem_singleton.1 hs]; omega⟩) hw1 (fun q hq => by rw [show q = _ from List.mem_singleton.1 hq]; exact .head _) (fun _ _ => trivial)) (by simp) (fun s hs => by rcases List.mem_cons.1 hs with rfl | hs; (· omega); rw [List.mem_singleton.1 hs]; omega)) ?_
 refine Xm ?_
 refine x_callv rfl rfl rfl Tryz.func26 Zk rfl (fun w1 hw1 => c_rInts w1 (hrs.keep (Kept.later (hw1.base (by simp)))) (by omega)) ?_
 refine x_buildSliceL (cs := [Value.string ⟨#[]⟩, Value.string ⟨(intsG rs).toArray⟩]) rfl rfl rfl u55 sz9 zr9 rfl rfl rfl ?_
 intro p106
 obtain ⟨y2, hy2⟩ : ∃ y : ByteArray, (⟨(packG [(⟨#[]⟩ : ByteArray), ⟨(intsG rs).toArray⟩]).toArray⟩ : ByteArray) = y := ⟨_, rfl⟩
 have hzy2 : y2.size ≤ 1650 := hy2 ▸ pk2_sz (by decide) (by omega) hri
 refine x_callv (v := Value.string y2) rfl rfl rfl Tryz.func24 Zk rfl (fun w1 hw1 => by
  rw [← hy2]
  have hz1 : ((⟨#[]⟩ : ByteArray)).size ≤ 810 := (by decide)
  have hz2 := ints_sz (l := rs) (by omega) hri
  exact c_rPack (l := [(⟨#[]⟩ : ByteArray), ⟨(intsG rs).toArray⟩]) (D := fun _ => True) w1 (row1_rd (T := tyStr) (e := 9) (r := some (p106, [(⟨#[]⟩ : ByteArray), ⟨(intsG rs).toArray⟩].map Value.string, 2)) Value.string rfl (rowOK_lit rfl (by simp [maxLen])) rfl (fun D9 w9 s hs => ⟨rfl, by unfold okS; rcases List.mem_cons.1 hs with rfl | hs; (· omega); rw [List.mem_singleton.1 hs]; omega⟩) hw1 (fun q hq => by rw [show q = _ from List.mem_singleton.1 hq]; exact .head _) (fun _ _ => trivial)) (by simp) (fun s hs => by rcases List.mem_cons.1 hs with rfl | hs; (· omega); rw [List.mem_singleton.1 hs]; omega)) ?_
 refine Xm ?_
 obtain ⟨y6, hy6⟩ : ∃ y, xx ++ (⟨#[0]⟩ : ByteArray) = y := ⟨_, rfl⟩
 have hz6 : y6.size ≤ 1651 := by rw [← hy6, ByteArray.size_append, show (⟨#[0]⟩ : ByteArray).size = 1 from rfl]; omega
 refine Xv (v := Value.string y6) rfl (by rw [← hy6]; exact v_sadd rfl rfl (by rw [show (⟨#[0]⟩ : ByteArray).size = 1 from rfl]; omega)) ?_
 refine x_buildSliceL (cs := [Value.string y1, Value.string y2, Value.string y6, Value.string ⟨#[]⟩]) rfl rfl rfl u55 sz9 zr9 rfl rfl rfl ?_
 intro p110
 refine Xa ?_
 refine Ze (Zt ?_)
 refine w_seq_cut (σ := List ByteArray × RowS) (fun x => rowOK 1 x.2 x.1.length (x.1.map Value.string) ∧ ∀ y ∈ x.1, y.size ≤ 3400) (fun x => [(7, Value.bool true), (16, rowV x.2 x.1.length)]) (fun x => rowO 9 x.2) (fun x => [(w, fun _ => True)]) ?_ ?_
 ·refine w_seq ?_
  refine Zr ?_
  refine Xm ?_
  refine Xv rfl (v_len_slice u22 rfl) ?_
  refine Xb rfl (v_gtr rfl rfl) fun b113 hb113 => ?_
  refine Ze (Zt ?_)
  refine w_cond rfl (fun hc113 => ?_) (fun hc113 => ?_)
  ·simp only [hb113, Qz, ne_eq] at hc113
   have hr2 : 1 < rs.length := by omega
   obtain ⟨b0, o0, hA0, _, hc0, hz0⟩ := int_at hrs (k := 0) (by omega)
   obtain ⟨b1, o1, hA1, _, hc1, hz1⟩ := int_at hrs (k := 1) (by omega)
   refine Zs (Zr ?_)
   refine Xm ?_
   refine Xv rfl (v_indexAddr (j := 0) u22 sz3 (congrArg (fun A => some (Value.slice A rs.length cR)) hA0) rfl (by omega) rfl) ?_
   refine Xv rfl (v_load u3 rfl rfl (at_ro (s := (w, fun _ => True)) (by simp) trivial (by rw [Nat.mul_one]; exact hc0))) ?_
   refine Xm ?_
   refine Xv rfl (v_len_str u9 rfl) ?_
   have hxx0 : ((xx.size : Nat) : Int) ≠ 0 := by omega
   obtain ⟨nn, hnn⟩ : ∃ n : Nat, rs[0] % ((xx.size : Nat) : Int) = n := ⟨_, (Int.toNat_of_nonneg (Int.emod_nonneg _ hxx0)).symm⟩
   have hnx : nn < xx.size := by have := Int.emod_lt_of_pos rs[0] (show (0 : Int) < ((xx.size : Nat) : Int) by omega); omega
   refine x_callv (v := Value.int .i64 ((nn : Nat) : Int)) rfl rfl rfl Tryz.func15 Zk rfl (fun w1 hw1 => by rw [← hnn]; exact c_Md rs[0] _ w1 hz0 ⟨by omega, by omega⟩) ?_
   refine Xa ?_
   refine Ze (Zt ?_)
   obtain ⟨y3, hy3⟩ : ∃ y, (xx.extract 0 nn ++ ⟨[u8of rs[1]].toArray⟩ : ByteArray) ++ xx.extract (nn + 1) xx.size = y := ⟨_, rfl⟩
   obtain ⟨y4, hy4⟩ : ∃ y, xx.extract 0 nn = y := ⟨_, rfl⟩
   have e1 : (⟨[u8of rs[1]].toArray⟩ : ByteArray).size = 1 := rfl
   have hz4 : y4.size ≤ 1650 := by rw [← hy4, ByteArray.size_extract]; omega
   have e2 : (xx.extract (nn + 1) xx.size).size = xx.size - (nn + 1) := by rw [ByteArray.size_extract]; omega
   have e4 : (y4 ++ ⟨[u8of rs[1]].toArray⟩ : ByteArray).size = y4.size + 1 := by rw [ByteArray.size_append, e1]
   rw [hy4] at hy3
   have hz3 : y3.size ≤ 3400 := by rw [← hy3, ByteArray.size_append, e4, e2]; omega
   refine rg_tree 27 (.flt 0 (.flt 1 (.flt 2 (.flt 3 (.flt 4 (.flt 5 (.flt 6 (.flt 7 (.flt 11 (.flt 12 (.flt 13 (.flt 14 (.flt 16 (.flt 17 (.flt 18 (.flt 19 (.flt 20 (.flt 21 (.flt 22 (.flt 23 (.gr 8 (.flt 9 (.flt 10 (.flt 15 (.gr 24 (.flt 25 (.gr 26 .done .nil)) .nil)))) (.gr 24 (.flt 25 (.gr 8 (.flt 9 (.flt 10 (.flt 15 (.gr 26 .done .nil)))) .nil)) .nil)))))))))))))))))))))) Zk Zk ?_
   refine t_flt (Q := fun _ _ _ => False) ?_
   refine Xm ?_
   refine Ze ?_
   refine t_flt (Q := fun _ _ _ => False) ?_
   refine Xm ?_
   refine Ze ?_
   refine t_flt (Q := fun _ _ _ => False) ?_
   refine Xm ?_
   refine Ze ?_
   refine t_flt (Q := fun _ _ _ => False) ?_
   refine Xv (v := Value.string y4) rfl (by rw [← hy4]; exact v_cut_to u9 rfl rfl (by omega)) ?_
   refine Ze ?_
   refine t_flt (Q := fun _ _ _ => False) ?_
   refine Xm ?_
   refine Ze ?_
   refine t_flt (Q := fun _ _ _ => False) ?_
   refine Xv rfl (v_indexAddr (j := 1) u22 sz3 (congrArg (fun A => some (Value.slice A rs.length cR)) hA1) rfl (by omega) rfl) ?_
   refine Ze ?_
   refine t_flt (Q := fun _ _ _ => False) ?_
   refine Xv rfl (v_load u3 rfl rfl (at_ro (s := (w, fun _ => True)) (by simp) trivial (by rw [Nat.mul_one]; exact hc1))) ?_
   refine Ze ?_
   refine t_flt (Q := fun _ _ _ => False) ?_
   refine Xv (v := Value.int .u8 (((u8of rs[1]).toNat : Nat) : Int)) rfl (by rw [← u8of_wrap]; exact v_conv u3 u5 rfl) ?_
   refine Ze ?_
   refine t_flt (Q := fun _ _ _ => False) ?_
   refine Xm ?_
   refine Ze ?_
   refine t_flt (Q := fun _ _ _ => False) ?_
   refine Xm ?_
   refine Ze ?_
   refine t_flt (Q := fun _ _ _ => False) ?_
   refine Xv rfl (v_addi (c := ((nn + 1 : Nat) : Int)) rfl rfl (by omega) Zo) ?_
   refine Ze ?_
   refine t_flt (Q := fun _ _ _ => False) ?_
   refine Xv rfl (v_cut_from u9 rfl rfl (by omega)) ?_
   refine Ze ?_
   refine t_flt (Q := fun _ _ _ => False) ?_
   refine Xm ?_
   refine Ze ?_
   refine t_flt (Q := fun _ _ _ => False) ?_
   refine Xm ?_
   refine Ze ?_
   refine t_flt (Q := fun _ _ _ => False) ?_
   refine Xv (v := Value.string y4) rfl (by rw [← hy4]; exact v_cut_to u9 rfl rfl (by omega)) ?_
   refine Ze ?_
   refine t_flt (Q := fun _ _ _ => False) ?_
   refine Xv rfl (v_load_blk (e := 26) (fz := (0, 0)) (cs := ([Value.int .i64 p.first, Value.int .i64 p.days, Value.slice A1 p.lv.length c1, Value.slice A2 p.st.length c2]).toArray) u26 rfl rfl Zi (by exact sz26)) ?_
   refine Ze ?_
   refine t_flt (Q := fun _ _ _ => False) ?_
   refine x_callv rfl rfl rfl Tryz.func25 Zk rfl (fun w1 hw1 => c_rWrite p w1 (⟨hp1, hp2, keep_new hpa hw1 Zh hm26, keep_new hpb hw1 Zh hm26⟩ : patRd (fun _ => True) w1 p (Value.slice A1 p.lv.length c1) (Value.slice A2 p.st.length c2))) ?_
   refine Ze ?_
   refine t_flt (Q := fun _ _ _ => False) ?_
   refine Xm ?_
   refine Ze ?_
   refine t_flt (Q := fun _ _ _ => False) ?_
   refine Xv rfl (v_scut_from (i := 2) u22 sz3 rfl rfl (by omega) (by omega)) ?_
   refine Ze ?_
   refine t_flt (Q := fun _ _ _ => False) ?_
   refine x_callv rfl rfl rfl Tryz.func26 Zk rfl (fun w1 hw1 => c_rInts w1 ((hrs.dropN 2 (by omega)).keep (Kept.later (hw1.base (by simp)))) (by rw [List.length_drop]; omega)) ?_
   refine Ze ?_
   refine t_gr (Q := fun _ _ _ => False) ?_ ?_
   ·refine x_buildSliceL (cs := [Value.int .u8 (((u8of rs[1]).toNat : Nat) : Int)]) rfl rfl rfl u45 sz5 zr5 rfl rfl rfl ?_
    intro p128
    refine Ze ?_
    refine t_flt (Q := fun _ _ _ => False) ?_
    refine Xv (v := Value.string ⟨[u8of rs[1]].toArray⟩) rfl (v_toStr [u8of rs[1]] u45 u5 u9 rfl rfl (fun j hj => at_ownL (vs := [Value.int .u8 (((u8of rs[1]).toNat : Nat) : Int)]) Zi (by have h0 : j = 0 := (by simpa using hj); subst h0; rfl))) ?_
    refine Ze ?_
    refine t_flt (Q := fun _ _ _ => False) ?_
    refine Xv rfl (v_sadd rfl rfl (by omega)) ?_
    refine Ze ?_
    refine t_flt (Q := fun _ _ _ => False) ?_
    refine Xv (v := Value.string y3) rfl (by rw [← hy3]; exact v_sadd rfl rfl (by omega)) ?_
    refine Ze ?_
    refine t_gr (Q := fun _ _ _ => False) ?_ t_nil
    refine x_buildSliceL (cs := [Value.string (writeQ p), Value.string ⟨(intsG (rs.drop 2)).toArray⟩]) rfl rfl rfl u55 sz9 zr9 rfl rfl rfl ?_
    intro p144
    refine Ze ?_
    refine t_flt (Q := fun _ _ _ => False) ?_
    obtain ⟨y5, hy5⟩ : ∃ y : ByteArray, (⟨(packG [writeQ p, ⟨(intsG (rs.drop 2)).toArray⟩]).toArray⟩ : ByteArray) = y := ⟨_, rfl⟩
    have hzy5 : y5.size ≤ 1650 := hy5 ▸ pk2_sz (Nat.le_trans (wr_sz4 hq) (by decide)) (by rw [List.length_drop]; omega) (fun n hn => hri n (List.mem_of_mem_drop hn))
    refine x_callv (v := Value.string y5) rfl rfl rfl Tryz.func24 Zk rfl (fun w1 hw1 => by
     rw [← hy5]
     have hz1 : (writeQ p).size ≤ 810 := (Nat.le_trans (wr_sz4 hq) (by decide))
     have hz2 := ints_sz (l := (rs.drop 2)) (by rw [List.length_drop]; omega) (fun n hn => hri n (List.mem_of_mem_drop hn))
     exact c_rPack (l := [writeQ p, ⟨(intsG (rs.drop 2)).toArray⟩]) (D := fun _ => True) w1 (row1_rd (T := tyStr) (e := 9) (r := some (p144, [writeQ p, ⟨(intsG (rs.drop 2)).toArray⟩].map Value.string, 2)) Value.string rfl (rowOK_lit rfl (by simp [maxLen])) rfl (fun D9 w9 s hs => ⟨rfl, by unfold okS; rcases List.mem_cons.1 hs with rfl | hs; (· omega); rw [List.mem_singleton.1 hs]; omega⟩) hw1 (fun q hq => by rw [show q = _ from List.mem_singleton.1 hq]; exact .head _) (fun _ _ => trivial)) (by simp) (fun s hs => by rcases List.mem_cons.1 hs with rfl | hs; (· omega); rw [List.mem_singleton.1 hs]; omega)) ?_
    refine Ze ?_
    refine t_gr (Q := fun _ _ _ => False) ?_ t_nil
    refine x_buildSliceL (cs := [Value.string y3, Value.string y4, Value.string y5]) rfl rfl rfl u55 sz9 zr9 rfl rfl rfl ?_
    intro p146
    refine Ze ?_
    refine t_done ?_
    refine x_mem (own' := [(p146, Obj.cells ([Value.string y3, Value.string y4, Value.string y5]).toArray 9 (0, 0)), (p110, Obj.cells ([Value.string y1, Value.string y2, Value.string y6, Value.string ⟨#[]⟩]).toArray 9 (0, 0))]) (fun _ h => h.less (by repeat (first | exact List.nil_sublist _ | apply List.Sublist.cons_cons | apply List.Sublist.cons)) (fun _ h => h)) ?_
    refine x_append (e := 9) [(p146, Obj.cells ([Value.string y3, Value.string y4, Value.string y5]).toArray 9 (0, 0))] (l2 := []) (some (p110, [Value.string y1, Value.string y2, Value.string y6, Value.string ⟨#[]⟩], 4)) (len := 4) (xs := [Value.string y1, Value.string y2, Value.string y6, Value.string ⟨#[]⟩]) rfl rfl rfl rfl rfl (rowOK_lit rfl (by simp [maxLen])) u55 ap9 rfl rfl (m := 3) (news := [Value.string y3, Value.string y4, Value.string y5]) (fun j hj => at_ownL (vs := [Value.string y3, Value.string y4, Value.string y5]) (.head _) (by rw [Nat.zero_add]; exact List.getElem?_eq_getElem hj)) rfl Zx (by omega) fun R' hR' => ?_
    refine Xa ?_
    refine Ze ?_
    exact c_norm ([y1, y2, y6, ⟨#[]⟩, y3, y4, y5], R') ⟨hR', (fun y hy => by
     have e8 : (⟨#[]⟩ : ByteArray).size = 0 := rfl
     simp only [List.mem_cons, List.not_mem_nil, or_false] at hy
     rcases hy with rfl | rfl | rfl | rfl | rfl | rfl | rfl <;> omega)⟩ Zu (fun w1 h => (h.to (List.append_nil _)).less (List.sublist_append_right _ _) (fun s hs => by rw [List.mem_singleton] at hs; subst hs; simp))
   refine t_gr (Q := fun _ _ _ => False) ?_ t_nil
   refine x_buildSliceL (cs := [Value.string (writeQ p), Value.string ⟨(intsG (rs.drop 2)).toArray⟩]) rfl rfl rfl u55 sz9 zr9 rfl rfl rfl ?_
   intro p144
   refine Ze ?_
   refine t_flt (Q := fun _ _ _ => False) ?_
   obtain ⟨y5, hy5⟩ : ∃ y : ByteArray, (⟨(packG [writeQ p, ⟨(intsG (rs.drop 2)).toArray⟩]).toArray⟩ : ByteArray) = y := ⟨_, rfl⟩
   have hzy5 : y5.size ≤ 1650 := hy5 ▸ pk2_sz (Nat.le_trans (wr_sz4 hq) (by decide)) (by rw [List.length_drop]; omega) (fun n hn => hri n (List.mem_of_mem_drop hn))
   refine x_callv (v := Value.string y5) rfl rfl rfl Tryz.func24 Zk rfl (fun w1 hw1 => by
    rw [← hy5]
    have hz1 : (writeQ p).size ≤ 810 := (Nat.le_trans (wr_sz4 hq) (by decide))
    have hz2 := ints_sz (l := (rs.drop 2)) (by rw [List.length_drop]; omega) (fun n hn => hri n (List.mem_of_mem_drop hn))
    exact c_rPack (l := [writeQ p, ⟨(intsG (rs.drop 2)).toArray⟩]) (D := fun _ => True) w1 (row1_rd (T := tyStr) (e := 9) (r := some (p144, [writeQ p, ⟨(intsG (rs.drop 2)).toArray⟩].map Value.string, 2)) Value.string rfl (rowOK_lit rfl (by simp [maxLen])) rfl (fun D9 w9 s hs => ⟨rfl, by unfold okS; rcases List.mem_cons.1 hs with rfl | hs; (· omega); rw [List.mem_singleton.1 hs]; omega⟩) hw1 (fun q hq => by rw [show q = _ from List.mem_singleton.1 hq]; exact .head _) (fun _ _ => trivial)) (by simp) (fun s hs => by rcases List.mem_cons.1 hs with rfl | hs; (· omega); rw [List.mem_singleton.1 hs]; omega)) ?_
   refine Ze ?_
   refine t_gr (Q := fun _ _ _ => False) ?_ t_nil
   refine x_buildSliceL (cs := [Value.int .u8 (((u8of rs[1]).toNat : Nat) : Int)]) rfl rfl rfl u45 sz5 zr5 rfl rfl rfl ?_
   intro p128
   refine Ze ?_
   refine t_flt (Q := fun _ _ _ => False) ?_
   refine Xv (v := Value.string ⟨[u8of rs[1]].toArray⟩) rfl (v_toStr [u8of rs[1]] u45 u5 u9 rfl rfl (fun j hj => at_ownL (vs := [Value.int .u8 (((u8of rs[1]).toNat : Nat) : Int)]) Zi (by have h0 : j = 0 := (by simpa using hj); subst h0; rfl))) ?_
   refine Ze ?_
   refine t_flt (Q := fun _ _ _ => False) ?_
   refine Xv rfl (v_sadd rfl rfl (by omega)) ?_
   refine Ze ?_
   refine t_flt (Q := fun _ _ _ => False) ?_
   refine Xv (v := Value.string y3) rfl (by rw [← hy3]; exact v_sadd rfl rfl (by omega)) ?_
   refine Ze ?_
   refine t_gr (Q := fun _ _ _ => False) ?_ t_nil
   refine x_buildSliceL (cs := [Value.string y3, Value.string y4, Value.string y5]) rfl rfl rfl u55 sz9 zr9 rfl rfl rfl ?_
   intro p146
   refine Ze ?_
   refine t_done ?_
   refine x_mem (own' := [(p146, Obj.cells ([Value.string y3, Value.string y4, Value.string y5]).toArray 9 (0, 0)), (p110, Obj.cells ([Value.string y1, Value.string y2, Value.string y6, Value.string ⟨#[]⟩]).toArray 9 (0, 0))]) (fun _ h => h.less (by repeat (first | exact List.nil_sublist _ | apply List.Sublist.cons_cons | apply List.Sublist.cons)) (fun _ h => h)) ?_
   refine x_append (e := 9) [(p146, Obj.cells ([Value.string y3, Value.string y4, Value.string y5]).toArray 9 (0, 0))] (l2 := []) (some (p110, [Value.string y1, Value.string y2, Value.string y6, Value.string ⟨#[]⟩], 4)) (len := 4) (xs := [Value.string y1, Value.string y2, Value.string y6, Value.string ⟨#[]⟩]) rfl rfl rfl rfl rfl (rowOK_lit rfl (by simp [maxLen])) u55 ap9 rfl rfl (m := 3) (news := [Value.string y3, Value.string y4, Value.string y5]) (fun j hj => at_ownL (vs := [Value.string y3, Value.string y4, Value.string y5]) (.head _) (by rw [Nat.zero_add]; exact List.getElem?_eq_getElem hj)) rfl Zx (by omega) fun R' hR' => ?_
   refine Xa ?_
   refine Ze ?_
   exact c_norm ([y1, y2, y6, ⟨#[]⟩, y3, y4, y5], R') ⟨hR', (fun y hy => by
    have e8 : (⟨#[]⟩ : ByteArray).size = 0 := rfl
    simp only [List.mem_cons, List.not_mem_nil, or_false] at hy
    rcases hy with rfl | rfl | rfl | rfl | rfl | rfl | rfl <;> omega)⟩ Zu (fun w1 h => (h.to (List.append_nil _)).less (List.sublist_append_right _ _) (fun s hs => by rw [List.mem_singleton] at hs; subst hs; simp))
  skip
  refine w_skip ?_
  exact c_norm ([y1, y2, y6, ⟨#[]⟩], some (p110, [Value.string y1, Value.string y2, Value.string y6, Value.string ⟨#[]⟩], 4)) ⟨rowOK_lit rfl (by simp [maxLen]), (fun y hy => by
   have e8 : (⟨#[]⟩ : ByteArray).size = 0 := rfl
   simp only [List.mem_cons, List.not_mem_nil, or_false] at hy
   rcases hy with rfl | rfl | rfl | rfl <;> omega)⟩ Zu (fun w1 h => by
   have h9 : Mem w1 [(p110, Obj.cells ([Value.string y1, Value.string y2, Value.string y6, Value.string ⟨#[]⟩]).toArray 9 (0, 0))] _ := h.less (by repeat (first | exact List.nil_sublist _ | apply List.Sublist.cons_cons | apply List.Sublist.cons)) (fun _ h => h)
   exact h9.less (List.Sublist.refl _) (fun s hs => by rw [List.mem_singleton] at hs; subst hs; simp))
 rintro ⟨ys, R⟩ ⟨hR, hys⟩
 refine w_state ([(7, Value.bool true), (16, rowV R ys.length)]) (rowO 9 R) ([(w, fun _ => True)]) ?_
 dsimp only at hR hys
 have hyl : ys.length ≤ 9223372036854775807 := by
  cases R with
  | none => have := hR.2; simp only at this; omega
  | some r => have h1 := hR.2.1; have h2 := hR.2.2.1; unfold maxLen at h2; omega
 refine Zs (Zs (Zr ?_))
 refine Xm ?_
 refine Xv rfl (v_len_slice u55 rfl) ?_
 refine Xm ?_
 refine Ze (Zt (w_block ?_))
 refine w_loop (σ := Nat) (fun k => k ≤ ys.length) (fun k => [(7, Value.bool true), (148, rowV R ys.length), (149, Value.int .i64 (ys.length : Nat)), (150, Value.int .i64 (k : Nat))]) (fun k => rowO 9 R) (fun k => [(w, fun _ => True)]) (fun k => ys.length - k) (0) (Nat.zero_le _) (l_start Zu (fun w1 h => h)) ?_
 rintro k hky
 refine w_state ([(7, Value.bool true), (148, rowV R ys.length), (149, Value.int .i64 (ys.length : Nat)), (150, Value.int .i64 (k : Nat))]) (rowO 9 R) ([(w, fun _ => True)]) ?_
 refine Zs (Zr ?_)
 refine Xb rfl (v_lss rfl rfl) fun b151 hb151 => ?_
 refine Ze (Zt (Zs ?_))
 refine w_cond rfl (fun hc151 => ?_) (fun hc151 => ?_)
 ·simp only [hb151, Qz, ne_eq] at hc151
  have hkl : k < ys.length := by omega
  obtain ⟨b0, cs0, cp0, rfl, hce⟩ := hR.cell (j := k) (by simpa using hkl)
  rw [List.getElem_map] at hce
  obtain ⟨y, hy⟩ : ∃ y, ys[k] = y := ⟨_, rfl⟩
  have hyz : y.size ≤ 3400 := hy ▸ hys _ (List.getElem_mem hkl)
  rw [hy] at hce
  refine w_skip (Zt (Zs (w_block (Zs (Zr ?_)))))
  refine Xv rfl (v_indexAddr u55 sz9 rfl rfl Zo rfl) ?_
  refine Xv rfl (v_load u9 rfl rfl (at_ownL (vs := cs0) (.head _) (by rw [Nat.zero_add, Nat.mul_one]; exact hce))) ?_
  refine Xa ?_
  refine Ze (Zt (Zs (Zr ?_)))
  refine Xm ?_
  refine x_call (R := fun v wa wb => ∃ v2 c, v = .tuple #[v2, .int .i64 c] ∧ c = (if (openG readQ y).isSome then 0 else 11) ∧ OpOK (fun b => wa.heap.size ≤ b) wb v2 (openG readQ y)) rfl rfl rfl Tryz.func23 Zk rfl (fun w1 hw1 => (c_Open y w1 (by omega) (hL.later (hw1.base (by simp)))).mono fun e w2 ⟨v, h1, h2, h3⟩ => ⟨_, h1, h2, v, _, rfl, rfl, h3⟩) fun v156 wa156 wb156 hm156 hl156 hR156 => ?_
  obtain ⟨va, ca, rfl, hca, hoa⟩ := hR156
  refine Xm ?_
  refine Xv rfl (v_extract rfl rfl) ?_
  refine Xv rfl (v_extract rfl rfl) ?_
  refine Xa ?_
  refine Xa ?_
  refine Ze (Zt (Zs (Zr ?_)))
  refine Xm ?_
  refine x_call (R := fun v wa wb => ∃ v2 c, v = .tuple #[v2, .int .i64 c] ∧ c = (if (openG readQ y).isSome then 0 else 11) ∧ OpOK (fun b => wa.heap.size ≤ b) wb v2 (openG readQ y)) rfl rfl rfl Tryz.func27 Zk rfl (fun w1 hw1 => (c_rOpen y w1 (by omega)).mono fun e w2 ⟨v, h1, h2, h3⟩ => ⟨_, h1, h2, v, _, rfl, rfl, h3⟩) fun v161 wa161 wb161 hm161 hl161 hR161 => ?_
  obtain ⟨vb, cb, rfl, hcb, hob⟩ := hR161
  refine Xm ?_
  refine Xv rfl (v_extract rfl rfl) ?_
  refine Xv rfl (v_extract rfl rfl) ?_
  refine Xa ?_
  refine Xa ?_
  refine Ze (Zt (Zs ?_))
  rcases ho : openG readQ y with _ | ⟨p2, e2⟩
  ·rw [ho] at hca hoa hcb hob
   obtain rfl : ca = 11 := hca
   obtain rfl : cb = 11 := hcb
   obtain rfl : va = .pointer none := hoa
   obtain rfl : vb = .pointer none := hob
   refine Zr ?_
   refine Xm ?_
   refine Xm ?_
   refine Xb rfl (v_neq rfl rfl) fun b166 hb166 => ?_
   obtain rfl : b166 = false := hb166.trans (decide_eq_false (fun h => h rfl))
   refine Xm ?_
   refine x_valg rfl rfl rfl rfl rfl (v_move rfl) ?_
   refine x_boolg rfl rfl rfl rfl rfl (v_eql rfl rfl) fun b169 hb169 => ?_
   obtain rfl : b169 = false := hb169.trans (decide_eq_false (by decide))
   refine x_valg rfl rfl rfl rfl rfl (v_move rfl) ?_
   refine x_boolg rfl rfl rfl rfl rfl (v_pneq (o := none) u28 rfl rfl) fun b171 hb171 => ?_
   obtain rfl : b171 = false := hb171
   refine x_boolg rfl rfl rfl rfl rfl (v_bneq rfl rfl u4) fun b172 hb172 => ?_
   obtain rfl : b172 = false := hb172
   refine Xb rfl (v_or rfl rfl) fun b173 hb173 => ?_
   obtain rfl : b173 = false := hb173
   refine Xm ?_
   refine x_valg rfl rfl rfl rfl rfl (v_move rfl) ?_
   refine x_boolg rfl rfl rfl rfl rfl (v_eql rfl rfl) fun b176 hb176 => ?_
   obtain rfl : b176 = false := hb176.trans (decide_eq_false (by decide))
   refine x_valg rfl rfl rfl rfl rfl (v_move rfl) ?_
   refine x_no rfl rfl rfl rfl rfl ?_
   refine x_no rfl rfl rfl rfl rfl ?_
   refine x_no rfl rfl rfl rfl rfl ?_
   refine x_no rfl rfl rfl rfl rfl ?_
   refine x_no rfl rfl rfl rfl rfl ?_
   refine x_noU rfl rfl rfl rfl ?_
   refine x_noU rfl rfl rfl rfl ?_
   refine x_noU rfl rfl rfl rfl ?_
   refine x_noU rfl rfl rfl rfl ?_
   refine x_noU rfl rfl rfl rfl ?_
   refine x_noU rfl rfl rfl rfl ?_
   refine x_no rfl rfl rfl rfl rfl ?_
   refine x_boolg rfl rfl rfl rfl rfl (v_and (v := false) rfl rfl) fun b190 hb190 => ?_
   obtain rfl : b190 = false := hb190
   refine Xb rfl (v_or rfl rfl) fun b191 hb191 => ?_
   obtain rfl : b191 = false := hb191
   refine Ze (Zt ?_)
   refine w_cond rfl (fun hc191 => ?_) (fun hc191 => ?_)
   ·cases hc191
   skip
   refine w_skip (b_norm (Zt (Zr ?_)))
   refine Xv rfl (v_addi (c := ((k + 1 : Nat) : Int)) rfl rfl (by omega) Zo) ?_
   refine Xm ?_
   refine Ze ?_
   exact l_norm (x := k) (μ := fun k => ys.length - k) (k + 1) (by omega) (by omega) Zu (fun w1 h => h.less (List.Sublist.refl _) (fun s hs => by rw [List.mem_singleton] at hs; subst hs; simp))
  rw [ho] at hca hoa hcb hob
  obtain rfl : ca = 0 := hca
  obtain rfl : cb = 0 := hcb
  obtain ⟨b1, u1, u2, u3, rfl, hS1⟩ := hoa
  obtain ⟨b2, x1, x2, x3, rfl, hS2⟩ := hob
  dsimp only at hS1 hS2
  obtain ⟨hen, hs2, hq2, _⟩ := open_back (fun t => read_back (t := t)) ho
  have hl2 := open_len (fun t => read_back (t := t)) ho
  have hq3 : e2 ≠ [] → rightQ p2 := fun h => hq2.elim id (fun h' => absurd h'.2 h)
  refine Zr ?_
  refine Xm ?_
  refine Xm ?_
  refine Xb rfl (v_neq rfl rfl) fun b166 hb166 => ?_
  obtain rfl : b166 = false := hb166.trans (decide_eq_false (fun h => h rfl))
  refine Xm ?_
  refine x_valg rfl rfl rfl rfl rfl (v_move rfl) ?_
  refine x_boolg rfl rfl rfl rfl rfl (v_eql rfl rfl) fun b169 hb169 => ?_
  obtain rfl : b169 = true := hb169.trans (decide_eq_true rfl)
  refine x_valg rfl rfl rfl rfl rfl (v_move rfl) ?_
  refine x_boolg rfl rfl rfl rfl rfl (v_pneq (o := some ⟨b1, 0, none⟩) u28 rfl rfl) fun b171 hb171 => ?_
  obtain rfl : b171 = true := hb171
  refine x_boolg rfl rfl rfl rfl rfl (v_bneq rfl rfl u4) fun b172 hb172 => ?_
  obtain rfl : b172 = false := hb172
  refine Xb rfl (v_or rfl rfl) fun b173 hb173 => ?_
  obtain rfl : b173 = false := hb173
  refine Xm ?_
  refine x_valg rfl rfl rfl rfl rfl (v_move rfl) ?_
  refine x_boolg rfl rfl rfl rfl rfl (v_eql rfl rfl) fun b176 hb176 => ?_
  obtain rfl : b176 = true := hb176.trans (decide_eq_true rfl)
  refine x_valg rfl rfl rfl rfl rfl (v_move rfl) ?_
  refine x_valg rfl rfl rfl rfl rfl (v_move rfl) ?_
  refine x_callvg (v := Value.string y) rfl rfl rfl rfl rfl Tryz.func21 Zk rfl (fun w1 hw1 => by rw [← hen]; exact c_Enc p2 e2 w1 (hS1.new hw1 Zi hm156) (by omega) (hL.later (hw1.base (by simp)))) ?_
  refine x_valg rfl rfl rfl rfl rfl (v_move rfl) ?_
  refine x_boolg rfl rfl rfl rfl rfl (v_sneq rfl rfl) fun b181 hb181 => ?_
  obtain rfl : b181 = false := hb181.trans (decide_eq_false (fun h => h rfl))
  refine x_valg rfl rfl rfl rfl rfl (v_move rfl) ?_
  refine x_valg rfl rfl rfl rfl rfl (v_move rfl) ?_
  refine x_call_g (R := fun v wa wb => sliceRd tyIss (fun b => wa.heap.size ≤ b) wb v (heldP p2 e2)) rfl rfl rfl rfl rfl Tryz.func19 Zk rfl (fun w1 hw1 => c_Held p2 e2 w1 (hS1.new hw1 Zi hm156) hq3 hs2.2 (by omega)) fun v184 wa184 wb184 hm184 hl184 hR184 => ?_
  obtain ⟨Aq184, cq184, rfl, -⟩ := id hR184
  refine x_valg rfl rfl rfl rfl rfl (v_move rfl) ?_
  refine x_call_g (R := fun v wa wb => sliceRd tyIss (fun b => wa.heap.size ≤ b) wb v (heldP p2 e2)) rfl rfl rfl rfl rfl Tryz.func20 Zk rfl (fun w1 hw1 => c_rHeld p2 e2 w1 (hS2.new hw1 Zi hm161) hq3 hs2.2 (by omega)) fun v186 wa186 wb186 hm186 hl186 hR186 => ?_
  obtain ⟨Aq186, cq186, rfl, -⟩ := id hR186
  refine x_callbg rfl rfl rfl rfl rfl Tryz.func16 Zk rfl (fun w1 hw1 => c_SameI w1 (keep_new hR184 hw1 Zi hm184) (keep_new hR186 hw1 (.head _) hm186)) fun b187 hb187 => ?_
  obtain rfl : b187 = true := hb187.trans (decide_eq_true rfl)
  refine x_boolg rfl rfl rfl rfl rfl (v_not rfl) fun b188 hb188 => ?_
  obtain rfl : b188 = false := hb188
  refine x_boolg rfl rfl rfl rfl rfl (v_or rfl rfl) fun b189 hb189 => ?_
  obtain rfl : b189 = false := hb189
  refine x_boolg rfl rfl rfl rfl rfl (v_and rfl rfl) fun b190 hb190 => ?_
  obtain rfl : b190 = false := hb190
  refine Xb rfl (v_or rfl rfl) fun b191 hb191 => ?_
  obtain rfl : b191 = false := hb191
  refine Ze (Zt ?_)
  refine w_cond rfl (fun hc191 => ?_) (fun hc191 => ?_)
  ·cases hc191
  skip
  refine w_skip (b_norm (Zt (Zr ?_)))
  refine Xv rfl (v_addi (c := ((k + 1 : Nat) : Int)) rfl rfl (by omega) Zo) ?_
  refine Xm ?_
  refine Ze ?_
  exact l_norm (x := k) (μ := fun k => ys.length - k) (k + 1) (by omega) (by omega) Zu (fun w1 h => h.less (List.Sublist.refl _) (fun s hs => by rw [List.mem_singleton] at hs; subst hs; simp))
 skip
 refine w_exit ?_
 refine t_exit ?_
 refine t_exit ?_
 refine b_hit ?_
 refine Zt (Zs (Zr ?_))
 refine Xm ?_
 refine Xa ?_
 refine Ze (Zt (w_ret ?_))
 exact ret1 rfl rfl (fun w' hm => ⟨rfl, hm.base (by simp)⟩)
open Go.RowKit Go.PK
def laidL : List (String × DataW Unit) := [("math/bits.deBruijn32tab", Rows.laid_math_bits_deBruijn32tab), ("math/bits.deBruijn64tab", Rows.laid_math_bits_deBruijn64tab), ("internal/strconv.uint64pow10", Rows.laid_internal_strconv_uint64pow10), ("unicode/utf8.acceptRanges", Rows.laid_unicode_utf8_acceptRanges), ("strconv.ErrRange", Rows.laid_strconv_ErrRange), ("strconv.ErrSyntax", Rows.laid_strconv_ErrSyntax), ("unicode/utf8.first", Rows.laid_unicode_utf8_first)]
theorem noHandle {W : World} (h : laidMetH Tryz.prog laidL W) : laidMet Tryz.prog laidL W := by
 have h1 := (laidMetH_iff.1 h).1
 rwa [show (laidL.filter fun x => x.2.handleName?.isNone) = laidL from by kernel_rfl] at h1
theorem laid_tab {W : World} (h : laidMet Tryz.prog laidL W) : Lib.TabIs Tryz.prog W "internal/strconv.uint64pow10" .u64 Lib.pow10Tab := by
 have h1 := h.filter fun x => x.1 == "internal/strconv.uint64pow10"
 have e : (laidL.filter fun x => x.1 == "internal/strconv.uint64pow10") = [("internal/strconv.uint64pow10", Lib.tabData .u64 Lib.pow10Tab)] := by kernel_rfl
 rw [e] at h1
 exact Lib.tabIs_of_head (g := 3) (t := 194) (e := 107) (n := 20) Zk Zk Zk Zk Zk Zk h1
theorem star : "*" ++ "errors.errorString" = "*errors.errorString" := by decide
theorem row104 (u : TypeId) (h : Tryz.prog.typeName? 3 u = some "*errors.errorString") : u = 190 :=
 typeName_ptr_named (nm := "errors.errorString") (by rw [star]; kernel_rfl) Zk (by decide) u (by rw [star]; exact h)
theorem laid_syn {W : World} (h : laidMet Tryz.prog laidL W) : ∃ tp p, W.var? Tryz.prog "strconv.ErrSyntax" = some #[.iface tp p] := by
 have h1 := h.filter fun x => x.1 == "strconv.ErrSyntax"
 have e : (laidL.filter fun x => x.1 == "strconv.ErrSyntax") = [("strconv.ErrSyntax", .iface "*errors.errorString" (.ptr (.agg [.lit (.string [105, 110, 118, 97, 108, 105, 100, 32, 115, 121, 110, 116, 97, 120])])))] := by kernel_rfl
 rw [e] at h1
 obtain ⟨a0, s0, hv0, _⟩ := laid_sentinel (g := 1) (ti := 112) (tp := 190) (te := 192) (ts := 9) h1 Zk Zk u112 row104 u190 u192 rfl rfl u9 Zk Zk
 exact ⟨_, _, hv0⟩
theorem laid_rng {W : World} (h : laidMet Tryz.prog laidL W) : ∃ tp p, W.var? Tryz.prog "strconv.ErrRange" = some #[.iface tp p] := by
 have h1 := h.filter fun x => x.1 == "strconv.ErrRange"
 have e : (laidL.filter fun x => x.1 == "strconv.ErrRange") = [("strconv.ErrRange", .iface "*errors.errorString" (.ptr (.agg [.lit (.string [118, 97, 108, 117, 101, 32, 111, 117, 116, 32, 111, 102, 32, 114, 97, 110, 103, 101])])))] := by kernel_rfl
 rw [e] at h1
 obtain ⟨a0, s0, hv0, _⟩ := laid_sentinel (g := 2) (ti := 112) (tp := 190) (te := 192) (ts := 9) h1 Zk Zk u112 row104 u190 u192 rfl rfl u9 Zk Zk
 exact ⟨_, _, hv0⟩
theorem ld_of {W : World} (h : laidMetH Tryz.prog laidL W) (hS : W.ShapedOpen Tryz.prog) : LD W := ⟨laid_tab (noHandle h), Tryz.laysM146.s1_3 W hS, laid_syn (noHandle h), laid_rng (noHandle h)⟩
theorem laid_met (os : Os) (args : Array Value) : laidMet Tryz.prog laidL ((World.laidAll Tryz.prog os laidL).forCall (fun _ _ => 0) ⟨#[], args, []⟩).memory :=
 laidMet_laidAll args Zk Zk
theorem bulk_one {H : Type} (d : DataW H) : 1 ≤ Rows.uptoBulk d := by
 cases d with
 | lit l => cases l <;> simp [Rows.uptoBulk]
 | nil => simp [Rows.uptoBulk]
 | ptr d => simp [Rows.uptoBulk]
 | slice elems spare => simp [Rows.uptoBulk]
 | agg parts => simp [Rows.uptoBulk]
 | iface t d => simp [Rows.uptoBulk]
 | map entries => simp [Rows.uptoBulk]
 | held h => simp [Rows.uptoBulk]
def meas (H : Type) : Meas H := ⟨Rows.uptoBulk, Rows.uptoBulkAll, fun _ => by simp [Rows.uptoBulk], fun _ _ => by simp [Rows.uptoBulk], fun _ => by simp [Rows.uptoBulk], fun _ _ => by simp [Rows.uptoBulkAll], bulk_one⟩
open Go.RowKit Go.PK
abbrev tyPatU : Ty (Int × Int × List Int × List Int × Unit) := tyCons tyI (tyCons tyI (tyCons (tySlice tyI) (tyCons (tySlice tyI) tyNil)))
abbrev tyActU : Ty (Int × Int × Int × Bool × Bool × ByteArray × Unit) := tyCons tyI (tyCons tyI (tyCons tyI (tyCons tyBool (tyCons tyBool (tyCons (tyStrN 1048576) tyNil)))))
theorem rdr_actU : RdrN Tryz.prog 34 tyActU 1048576 :=
 rdrN_struct u34 Zk (by decide) (.cons rfl (rdr_i u3 Zk).N (.cons rfl (rdr_i u3 Zk).N (.cons rfl (rdr_i u3 Zk).N (.cons rfl (rdr_bool u4 Zk).N (.cons rfl (rdr_bool u4 Zk).N (.cons rfl (rdr_sN u9 Zk) (.nil _)))))))
theorem rdr_act : RdrN Tryz.prog 34 tyAct 1048576 :=
 ⟨rdr_actU.size, rdr_actU.pos, fun M hM h => by
  obtain ⟨⟨y1, y2, y3, y4, y5, y6, _⟩, hy⟩ := rdr_actU.rd M hM h
  obtain ⟨_, _, e0, ⟨e1, k1⟩, _, _, rfl, ⟨e2, k2⟩, _, _, rfl, ⟨e3, k3⟩, _, _, rfl, e4, _, _, rfl, e5, _, _, rfl, ⟨e6, k6⟩, e7⟩ := hy
  dsimp only at e1 e2 e3 k1 k2 k3 k6 e6
  have e7 : _ = [] := e7
  have e4 : _ = [Value.bool y4] := e4
  have e5 : _ = [Value.bool y5] := e5
  refine ⟨⟨y1, y2, y3, y4, y5, y6⟩, ?_, k1, k2, k3, k6⟩
  rw [e0, e1, e2, e3, e4, e5, e6, e7]; rfl⟩
end Go.Proofs.YtaniaihoodgmpaaGreatDoor
