/- Of the proofs of YtnflcekodobdlaaGreatDoor: Fa Eg Eh Fb Fc Fd Ga Xx Fe Gb Gc Gd Ge, put together. -/
import Derived.Test.YtnflcekodobdlaaGreatDoorT7
import Derived.Test.YtnflcekodobdlaaGreatDoorT3
import Derived.Test.YtnflcekodobdlaaGreatDoorT5
import Derived.Lay
import Derived.LaidSub
import Derived.Lib.LaidTab
import Derived.Stop.LaidErr
import Derived.Deep.DeepHandedRow
import Derived.SevenTiedAt
import Derived.Test.YtnflcekodobdlaaGreatDoorT1
import Derived.Test.YtnflcekodobdlaaGreatDoorT2
import Derived.Test.YtnflcekodobdlaaGreatDoorT4
import Derived.Test.YtnflcekodobdlaaGreatDoorT6
set_option linter.unusedVariables false
set_option linter.unusedSimpArgs false
set_option maxRecDepth 100000

namespace Go.Proofs.YtnflcekodobdlaaGreatDoor
open Go.RowKit Go.PK
theorem c_ex (w : World) :
  Calls Tryz.prog 38 #[] w fun e w' => ∃ R', e = .returned (rowV R' 6) ∧ rowOK 6 R' 6 (fdsC exF) ∧ Mem w' (rowO 28 R') [(w, fun _ => True)] := by
 refine enter (vs := []) Tryz.func38 rfl Tryz.ntmps38 rfl ?_
 refine Zs (Zr ?_)
 refine Xa ?_
 refine Ze (Zt (Zs (Zr ?_)))
 refine Xv (v := Value.agg ((⟨1, 1, 1, 1, 0, T8a⟩ : FD)).cells.toArray) rfl (v_buildL (cs := ((⟨1, 1, 1, 1, 0, T8a⟩ : FD)).cells) (places := [(0, 1), (1, 1), (2, 1), (3, 1), (4, 1), (5, 1)]) u28 zr28 Zk rfl rfl) ?_
 refine Xv (v := Value.agg ((⟨1, 2, 1, 2, 0, T8b⟩ : FD)).cells.toArray) rfl (v_buildL (cs := ((⟨1, 2, 1, 2, 0, T8b⟩ : FD)).cells) (places := [(0, 1), (1, 1), (2, 1), (3, 1), (4, 1), (5, 1)]) u28 zr28 Zk rfl rfl) ?_
 refine Xv (v := Value.agg ((⟨1, 3, 3, 2, 0, T8c⟩ : FD)).cells.toArray) rfl (v_buildL (cs := ((⟨1, 3, 3, 2, 0, T8c⟩ : FD)).cells) (places := [(0, 1), (1, 1), (2, 1), (3, 1), (4, 1), (5, 1)]) u28 zr28 Zk rfl rfl) ?_
 refine Xv (v := Value.agg ((⟨1, 4, 4, 1, 2, ⟨#[]⟩⟩ : FD)).cells.toArray) rfl (v_buildL (cs := ((⟨1, 4, 4, 1, 2, ⟨#[]⟩⟩ : FD)).cells) (places := [(0, 1), (1, 1), (2, 1), (3, 1), (4, 1), (5, 1)]) u28 zr28 Zk rfl rfl) ?_
 refine Xv (v := Value.agg ((⟨1, 5, 1, 3, 0, T8d⟩ : FD)).cells.toArray) rfl (v_buildL (cs := ((⟨1, 5, 1, 3, 0, T8d⟩ : FD)).cells) (places := [(0, 1), (1, 1), (2, 1), (3, 1), (4, 1), (5, 1)]) u28 zr28 Zk rfl rfl) ?_
 refine Xv (v := Value.agg ((⟨1, 6, 5, 2, 3, T8e⟩ : FD)).cells.toArray) rfl (v_buildL (cs := ((⟨1, 6, 5, 2, 3, T8e⟩ : FD)).cells) (places := [(0, 1), (1, 1), (2, 1), (3, 1), (4, 1), (5, 1)]) u28 zr28 Zk rfl rfl) ?_
 refine x_buildSliceL (cs := fdsC exF) rfl rfl rfl u24 sz28 zr28 rfl rfl Zk ?_
 intro p7
 refine Xa ?_
 refine Ze (Zt (w_ret ?_))
 exact ret1 rfl rfl (fun w' hm => ⟨some (p7, fdsC exF, 6), rfl, ⟨rfl, (by show 6 ≤ 6; decide), (by show 6 ≤ maxLen; simp only [maxLen]; omega), rfl, rfl⟩, hm⟩)
theorem c_taken {R : RowS} {l : List FD} (w : World) (hR : PK.rowR 28 6 FD.cells R l w) (hlen : l.length ≤ 100000) (hin : ∀ f ∈ l, inFD f) (hL : LD w) :
  Calls Tryz.prog 24 #[rowV R l.length] w fun e w' => ∃ x : FM8, e = .returned (Pt x.pf) ∧ FOK x (takeAll l) ∧ Mem w' (FO x (takeAll l)) [(w, fun _ => True)] := by
 refine enter (vs := [rowV R l.length]) Tryz.func24 rfl Tryz.ntmps24 rfl ?_
 refine Zs (Zr ?_)
 refine Xa ?_
 refine Ze (Zt (Zs (Zr ?_)))
 refine x_own (τ := FM8) (fun x => Pt x.pf) (fun x => FOK x [] ∧ x.now = none) (fun x => FO x []) rfl rfl rfl Tryz.func16 Zk rfl (fun w1 hw1 => (k_New w1).mono fun e w2 ⟨x, h1, h2, h3, h4⟩ => ⟨x, h1, h4.base (by simp), ⟨h2, h3⟩, hw1.join h4⟩) ?_
 rintro x0 ⟨hx0, hn0⟩
 refine Xa ?_
 refine Ze (Zt (Zs (Zs (Zr ?_))))
 refine Xa ?_
 refine Ze (Zt (w_block ?_))
 refine w_loop (σ := Nat × FM8) (fun z => z.1 ≤ l.length ∧ FOK z.2 (takeAll (l.take z.1))) (fun z => [(0, rowV R l.length), (3, Pt z.2.pf), (4, Vi (z.1 : Nat))]) (fun z => FO z.2 (takeAll (l.take z.1)) ++ []) (fun z => [(w, fun _ => True)]) (fun z => l.length - z.1) ((0, x0)) (⟨Nat.zero_le _, hx0⟩) (l_start Zu (fun w1 h => h.to (by simp; rfl))) ?_
 rintro ⟨k, x⟩ ⟨hk, hx⟩
 refine w_state ([(0, rowV R l.length), (3, Pt x.pf), (4, Vi (k : Nat))]) (FO x (takeAll (l.take k)) ++ []) ([(w, fun _ => True)]) ?_
 dsimp only at hk hx
 refine Zs (Zs (Zr ?_))
 refine Xm ?_
 refine Xm ?_
 refine Xv (v := Vi (l.length : Nat)) rfl (v_len_slice u24 rfl) ?_
 refine Xb rfl (v_lss rfl rfl) fun b9 hb9 => ?_
 refine Ze (Zt ?_)
 refine w_cond rfl (fun hc9 => ?_) fun hc9 => ?_
 ·simp only [hb9, Qz, ne_eq] at hc9
  have hkl : k < l.length := by omega
  obtain ⟨gF, csF, cpF, hRg, hcpF, hclF⟩ := hR.cells (c := FD.cells) (m := 6) (fun _ => rfl) (by decide) hkl
  refine w_skip (Zt (Zs (w_block (Zr ?_))))
  refine Xm ?_
  refine Xm ?_
  refine Xm ?_
  refine Xv rfl (v_indexAddr u24 sz28 (congrArg (fun R => some (rowV R l.length)) hRg) rfl (hkl) rfl) ?_
  refine Xv rfl (v_loadN (vs := l[k].cells) u28 rfl sz28 rfl (fun i hi => at_ro (.head _) trivial (by rw [Nat.zero_add]; exact (hclF i hi).trans (List.getElem?_eq_getElem hi)))) ?_
  refine x_turn (τ := FM8) (fst := #[]) (cap := #[]) (v := Vi (takeF (takeAll (l.take k)) l[k]).1) (fun x' => FOK x' (takeF (takeAll (l.take k)) l[k]).2 ∧ x'.pf = (x).pf) (fun x' => FO x' (takeF (takeAll (l.take k)) l[k]).2 ++ []) rfl rfl rfl Tryz.func17 Zk rfl (fun w1 hw1 => by
   simp only [Array.empty_append, Array.append_empty]
   exact k_Take (L := []) hx (hin _ (List.getElem_mem hkl)) (.head _) hL (hw1.to (by simp))) ?_
  rintro x9 ⟨hx9, hp9⟩
  refine Ze (b_norm (Zt (Zr ?_)))
  refine Xm ?_
  refine Xv rfl (v_addi rfl rfl rfl Zo) ?_
  refine Xa ?_
  refine Ze ?_
  exact l_norm (k + 1, x9) ⟨hkl, by dsimp only; rw [List.take_succ_eq_append_getElem hkl, takeAll_snoc]; exact hx9⟩ (by simp only; omega) (by dsimp only; rw [hp9]; repeat (first | exact Sub.nil | refine Sub.cons rfl ?_)) (fun w1 h => h.to (by dsimp only; rw [List.take_succ_eq_append_getElem hkl, takeAll_snoc]))
 simp only [hb9, Qz, ne_eq] at hc9
 obtain rfl : k = l.length := by omega
 rw [List.take_of_length_le (Nat.le_refl _)] at hx
 refine w_exit ?_
 refine t_exit ?_
 refine t_exit ?_
 refine b_hit ?_
 refine Zt (Zs (Zr ?_))
 refine Xm ?_
 refine Xa ?_
 refine Ze (Zt (w_ret ?_))
 exact ret1 rfl rfl (fun w' hm => ⟨x, rfl, hx, by rw [List.take_of_length_le (Nat.le_refl _), List.append_nil] at hm; exact hm⟩)
theorem r_SameF {R S : RowS} {l l2 : List FD} (w : World) (hR : PK.rowR 28 6 FD.cells R l w) (hS : PK.rowR 28 6 FD.cells S l2 w) (hlen : l.length ≤ 100000) (hlen2 : l2.length ≤ 100000) :
  Calls Tryz.prog 36 #[rowV R l.length, rowV S l2.length] w fun e w' => e = .returned (.bool (decide (l = l2))) ∧ Later w w' := by
 refine enter (vs := [rowV R l.length, rowV S l2.length]) Tryz.func36 rfl Tryz.ntmps36 rfl ?_
 refine Zs (Zr ?_)
 refine Xa ?_
 refine Ze (Zt (Zs (Zs (Zr ?_))))
 refine Xm ?_
 refine Xv (v := Vi (l.length : Nat)) rfl (v_len_slice u24 rfl) ?_
 refine Xm ?_
 refine Xv (v := Vi (l2.length : Nat)) rfl (v_len_slice u24 rfl) ?_
 refine Xb rfl (v_neq rfl rfl) fun b10 hb10 => ?_
 refine Ze (Zt ?_)
 refine w_cond rfl (fun hc10 => ?_) fun hc10 => ?_
 ·simp only [hb10, Qz, ne_eq] at hc10
  have hnl : ¬l.length = l2.length := by omega
  refine Zs (Zr ?_)
  refine Xa ?_
  refine Ze (Zt (w_ret (t_ret ?_)))
  refine ret1 rfl rfl (fun w' hm => ⟨?_, hm.base (by simp)⟩)
  rw [decide_eq_false (fun h => hnl (congrArg List.length h))]
 simp only [hb10, Qz, ne_eq] at hc10
 have hll : l.length = l2.length := by omega
 refine w_skip (Zt (Zs (Zs (Zr ?_))))
 refine Xa ?_
 refine Ze (Zt (w_block ?_))
 refine w_loop (σ := Nat) (fun k => k ≤ l.length ∧ l.take k = l2.take k) (fun k => [(0, rowV R l.length), (1, rowV S l2.length), (5, Vi (k : Nat))]) (fun k => []) (fun k => [(w, fun _ => True)]) (fun k => l.length - k) (0) (⟨Nat.zero_le _, rfl⟩) (l_start Zu (fun _ h => h)) ?_
 rintro k ⟨hk, hsa⟩
 refine w_state ([(0, rowV R l.length), (1, rowV S l2.length), (5, Vi (k : Nat))]) ([]) ([(w, fun _ => True)]) ?_
 refine Zs (Zs (Zr ?_))
 refine Xm ?_
 refine Xm ?_
 refine Xv (v := Vi (l.length : Nat)) rfl (v_len_slice u24 rfl) ?_
 refine Xb rfl (v_lss rfl rfl) fun b14 hb14 => ?_
 refine Ze (Zt ?_)
 refine w_cond rfl (fun hc14 => ?_) fun hc14 => ?_
 ·simp only [hb14, Qz, ne_eq] at hc14
  have hkl : k < l.length := by omega
  obtain ⟨gF, csF, cpF, hRg, hcpF, hclF⟩ := hR.cells (c := FD.cells) (m := 6) (fun _ => rfl) (by decide) hkl
  have hkl2 : k < l2.length := by omega
  obtain ⟨gE, csE, cpE, hSg, hcpE, hclE⟩ := hS.cells (c := FD.cells) (m := 6) (fun _ => rfl) (by decide) hkl2
  refine w_skip (Zt (Zs (w_block (Zs ?_))))
  refine rg_draw 9 [(true, 0), (true, 1), (true, 2), (true, 3), (true, 4), (true, 5), (true, 6), (true, 7), (true, 8)] Zk Zk ?_
  refine Xm ?_
  refine Xm ?_
  refine Xv rfl (v_indexAddr u24 sz28 (congrArg (fun R => some (rowV R l.length)) hRg) rfl (hkl) rfl) ?_
  refine Xv rfl (v_loadN (vs := l[k].cells) u28 rfl sz28 rfl (fun i hi => at_ro (.head _) trivial (by rw [Nat.zero_add]; exact (hclF i hi).trans (List.getElem?_eq_getElem hi)))) ?_
  refine Xm ?_
  refine Xm ?_
  refine Xv rfl (v_indexAddr u24 sz28 (congrArg (fun R => some (rowV R l2.length)) hSg) rfl (hkl2) rfl) ?_
  refine Xv rfl (v_loadN (vs := l2[k].cells) u28 rfl sz28 rfl (fun i hi => at_ro (.head _) trivial (by rw [Nat.zero_add]; exact (hclE i hi).trans (List.getElem?_eq_getElem hi)))) ?_
  refine Xb rfl (v_neA Zk rfl rfl (fun w1 => eqFD w1 l[k] l2[k])) fun b25 hb25 => ?_
  refine Ze (Zt ?_)
  refine w_cond rfl (fun hc25 => ?_) fun hc25 => ?_
  ·simp only [hb25, Qz, ne_eq] at hc25
   have hne : ¬l[k] = l2[k] := by simpa using hc25
   refine Zs (Zr ?_)
   refine Xa ?_
   refine Ze (Zt (w_ret (b_ret (t_ret (t_ret (b_ret (t_ret ?_)))))))
   refine ret1 rfl rfl (fun w' hm => ⟨?_, hm.base (by simp)⟩)
   rw [decide_eq_false (fun h => hne (by subst h; rfl))]
  simp only [hb25, Qz, ne_eq] at hc25
  have heq : l[k] = l2[k] := by simpa using hc25
  refine w_skip (b_norm (Zt (Zr ?_)))
  refine Xm ?_
  refine Xv rfl (v_addi rfl rfl rfl Zo) ?_
  refine Xa ?_
  refine Ze ?_
  exact l_norm (k + 1) ⟨hkl, by rw [List.take_succ_eq_append_getElem hkl, List.take_succ_eq_append_getElem hkl2, hsa, heq]⟩ (by omega) Zu (fun _ h => h)
 simp only [hb14, Qz, ne_eq] at hc14
 obtain rfl : k = l.length := by omega
 refine w_exit ?_
 refine t_exit ?_
 refine t_exit ?_
 refine b_hit ?_
 refine Zt (Zs (Zr ?_))
 refine Xa ?_
 refine Ze (Zt (w_ret ?_))
 refine ret1 rfl rfl (fun w' hm => ⟨?_, hm.base (by simp)⟩)
 rw [List.take_of_length_le (Nat.le_refl _), List.take_of_length_le (by omega)] at hsa; rw [decide_eq_true hsa]
open Go.RowKit Go.PK
theorem least_step {p : HG → Bool} {hs : List HR} {k : Nat} (hk : k < hs.length) : leastB p (gsR (hs.take (k + 1))) = if p hs[k].g = true ∧ (leastB p (gsR (hs.take k)) = 0 ∨ hs[k].g.id < leastB p (gsR (hs.take k))) then hs[k].g.id else leastB p (gsR (hs.take k)) := by
 rw [List.take_succ_eq_append_getElem hk]
 unfold gsR
 rw [List.map_append, List.map_singleton, leastB_snoc]
def othA (o id : Int) (b : Bool) : Int := if b = true ∧ (o = 0 ∨ id < o) then id else o
theorem othA_yes {o id : Int} {l : List ByteArray} {t s : ByteArray} (hid : 1 ≤ id) (hs : s = t) (hc : othA o id (amg l t) = 0 ∨ id < othA o id (amg l t)) : id = othA o id (amg (l ++ [s]) t) := by
 have h1 : amg (l ++ [s]) t = true := by unfold amg; rw [List.any_append]; simp [hs]
 rw [h1]
 unfold othA at *
 by_cases hq : amg l t = true ∧ (o = 0 ∨ id < o)
 ·rw [if_pos ⟨rfl, hq.2⟩]
 rw [if_neg hq] at hc
 rw [if_pos ⟨rfl, hc⟩]
theorem othA_no {o id : Int} {l : List ByteArray} {t s : ByteArray} (hid : 1 ≤ id) (h : ¬(s = t ∧ (othA o id (amg l t) = 0 ∨ id < othA o id (amg l t)))) : othA o id (amg l t) = othA o id (amg (l ++ [s]) t) := by
 by_cases hs : s = t
 ·have hc : ¬(othA o id (amg l t) = 0 ∨ id < othA o id (amg l t)) := fun h1 => h ⟨hs, h1⟩
  have h1 : amg (l ++ [s]) t = true := by unfold amg; rw [List.any_append]; simp [hs]
  rw [h1]
  unfold othA at *
  by_cases hq : amg l t = true ∧ (o = 0 ∨ id < o)
  ·rw [if_pos hq, if_pos ⟨rfl, hq.2⟩]
  rw [if_neg hq] at hc ⊢
  rw [if_neg (fun h2 => hc h2.2)]
 have h1 : amg (l ++ [s]) t = amg l t := by unfold amg; rw [List.any_append]; simp [hs]
 rw [h1]
theorem foldS_ne {t : ByteArray} (h : ¬foldS t = ⟨#[]⟩) : ¬(foldS t).size = 0 := fun h0 => h (by
 have := ByteArray.ext_iff.2 (Array.eq_empty_of_size_eq_zero h0)
 exact this)
theorem least_nn {p : HG → Bool} {hs : List HG} (hp : ∀ h ∈ hs, 1 ≤ h.id) : 0 ≤ leastB p hs := by
 rcases leastB_is p hs hp with ⟨h, _⟩ | ⟨⟨h, h1, _, h2⟩, _⟩
 ·omega
 have := hp h h1; omega
theorem findF_pos {hs : List HG} {t : ByteArray} (h0 : ¬foldS t = ⟨#[]⟩) (h : leastB (namedB (foldS t)) hs > 0) : findF hs t = (leastB (namedB (foldS t)) hs, true) := by
 unfold findF findT
 rw [if_neg (foldS_ne h0), if_neg (by omega)]
 exact Prod.ext rfl (decide_eq_true (show leastB (namedB (foldS t)) hs ≠ 0 by omega))
theorem findF_neg {hs : List HG} {t : ByteArray} (hp : ∀ h ∈ hs, 1 ≤ h.id) (h0 : ¬foldS t = ⟨#[]⟩) (h : ¬leastB (namedB (foldS t)) hs > 0) : findF hs t = (leastB (alsoB (foldS t)) hs, decide (leastB (alsoB (foldS t)) hs > 0)) := by
 have h1 := least_nn (p := namedB (foldS t)) hp
 have h2 := least_nn (p := alsoB (foldS t)) hp
 unfold findF findT
 rw [if_neg (foldS_ne h0), if_pos (by omega)]
 exact Prod.ext rfl (decide_eq_decide.2 (by omega))
theorem findF_nil {hs : List HG} {t : ByteArray} (h0 : foldS t = ⟨#[]⟩) : findF hs t = (0, false) := by
 unfold findF
 rw [if_pos (by rw [h0]; rfl)]
set_option maxHeartbeats 1000000 in
theorem r_FindS {ps : Nat} {H : RowS} {hs : List HR} (w : World) (hR : RdR w ps H hs) (hlen : hs.length ≤ 100000) (hacy : Acy (gsR hs)) (hsz : ∀ x ∈ hs, szH 4000000 x.g) (hol : ∀ x ∈ hs, x.g.oth.length ≤ 100000) (t : ByteArray) (ht : t.size ≤ 4000000) :
  Calls Tryz.prog 97 #[Pt ps, .string t] w fun e w' => e = .returned (.tuple #[Vi (findF (gsR hs) t).1, .bool (findF (gsR hs) t).2]) ∧ Later w w' := by
 refine enter (vs := [Pt ps, .string t]) Tryz.func97 rfl Tryz.ntmps97 rfl ?_
 refine Zs (Zr ?_)
 refine Xa ?_
 refine Xa ?_
 refine Ze (Zt (Zs (Zr ?_)))
 refine Xm ?_
 refine x_callv rfl rfl rfl Tryz.func22 Zk rfl (fun w1 hw1 => r_Fold t w1 ht) ?_
 refine Xa ?_
 refine Ze (Zt (Zs (Zr ?_)))
 refine Xa ?_
 refine Ze (Zt (Zs (Zr ?_)))
 refine Xa ?_
 refine Ze (Zt (Zs (Zs (Zr ?_))))
 refine Xa ?_
 refine Ze (Zt (w_block ?_))
 refine w_loop (σ := Nat) (fun k => k ≤ hs.length ∧ (k = 0 ∨ ¬(foldS t) = ⟨#[]⟩)) (fun k => [(0, Pt ps), (6, Value.string (foldS t)), (7, Vi (leastB (namedB (foldS t)) (gsR (hs.take k)))), (8, Vi (leastB (alsoB (foldS t)) (gsR (hs.take k)))), (9, Vi (k : Nat))]) (fun k => []) (fun k => [(w, fun _ => True)]) (fun k => hs.length - k) (0) (⟨Nat.zero_le _, .inl rfl⟩) (l_start Zu (fun _ h => h)) ?_
 rintro k ⟨hk, hor⟩
 refine w_state ([(0, Pt ps), (6, Value.string (foldS t)), (7, Vi (leastB (namedB (foldS t)) (gsR (hs.take k)))), (8, Vi (leastB (alsoB (foldS t)) (gsR (hs.take k)))), (9, Vi (k : Nat))]) ([]) ([(w, fun _ => True)]) ?_
 refine Zs (Zs (Zr ?_))
 refine Xm ?_
 refine Xm ?_
 refine Xn ?_
 refine Xf 0 rfl u144 rfl sz142 ?_
 refine Xl rfl u142 rfl (at_ro (.head _) trivial hR.st) ?_
 refine Xv (v := Vi (hs.length : Nat)) rfl (v_len_slice u142 rfl) ?_
 refine Xb rfl (v_lss rfl rfl) fun b20 hb20 => ?_
 refine Xm ?_
 refine Xg ?_
 refine Xj rfl rfl rfl (fun hg0 => by subst hg0; (try simp only [Qy]); exact v_sneq rfl rfl) fun b23 hb23 => ?_
 refine Xb rfl (v_and rfl rfl) fun b24 hb24 => ?_
 refine Ze (Zt ?_)
 refine w_cond rfl (fun hc24 => ?_) fun hc24 => ?_
 ·simp only [hb24, hb23, hb20, Qz, ne_eq] at hc24
  have hkl : k < hs.length := by omega
  have hid := (hacy.pos hs[k].g (List.mem_map_of_mem (List.getElem_mem hkl))).1
  have hszk := hsz _ (List.getElem_mem hkl)
  have holk := hol _ (List.getElem_mem hkl)
  have hst := least_step (p := namedB (foldS t)) hkl
  have hsu := least_step (p := alsoB (foldS t)) hkl
  obtain ⟨g, cs, cp, hRg, hcp, hcl⟩ := hR.row.cells (c := hrC) (m := 5) (fun _ => rfl) (by decide) hkl
  refine w_skip (Zt (Zs (w_block (Zs (Zr ?_)))))
  refine Xm ?_
  refine Xn ?_
  refine Xf 0 rfl u144 rfl sz142 ?_
  refine Xl rfl u142 rfl (at_ro (.head _) trivial hR.st) ?_
  refine Xm ?_
  refine Xv rfl (v_indexAddr u142 sz148 (congrArg (fun R => some (rowV R hs.length)) hRg) rfl (hkl) rfl) ?_
  refine Xv rfl (v_loadN (vs := hrC hs[k]) u148 rfl sz148 rfl (fun i hi => at_ro (.head _) trivial (by rw [Nat.zero_add]; exact (hcl i hi).trans (List.getElem?_eq_getElem hi)))) ?_
  refine x_alloc rfl rfl rfl zr148 ?_
  intro p10
  refine x_store0 [] rfl rfl rfl rfl sz148 rfl rfl ?_
  refine Ze (Zt ?_)
  refine w_seq_cut (σ := Unit) (fun z9 => True) (fun z9 => [(0, Pt ps), (6, Value.string (foldS t)), (7, Vi (leastB (namedB (foldS t)) (gsR (hs.take (k + 1))))), (8, Vi (leastB (alsoB (foldS t)) (gsR (hs.take k)))), (9, Vi (k : Nat)), (10, Pt p10)]) (fun z9 => [(Bk p10 (hrC hs[k]) 148)]) (fun z9 => [(w, fun _ => True)]) ?_ ?_
  ·refine w_seq ?_
   refine Zr ?_
   refine Xf 1 rfl u148 rfl sz9 ?_
   refine Xv rfl (Vl u9 rfl) ?_
   refine x_callv rfl rfl rfl Tryz.func22 Zk rfl (fun w1 hw1 => r_Fold _ w1 hszk.1) ?_
   refine Xm ?_
   refine Xb rfl (v_seql rfl rfl) fun b38 hb38 => ?_
   refine Xm ?_
   refine Xg ?_
   refine Xj rfl rfl rfl (fun hg0 => by subst hg0; (try simp only [Qy]); exact v_eql rfl rfl) fun b41 hb41 => ?_
   refine Xg ?_
   refine x_if [(b38, true)] rfl rfl rfl rfl rfl (fun hg => by obtain ⟨hg0, hg1, _⟩ := hg; subst hg0; subst hg1; (try simp only [Qy]); exact v_fieldAddr (off' := 0) u148 rfl sz3 (by decide) rfl rfl) ?_
   refine x_if [(b38, true)] rfl rfl rfl rfl rfl (fun hg => by obtain ⟨hg0, hg1, _⟩ := hg; subst hg0; subst hg1; (try simp only [Qy]); exact Vl u3 rfl) ?_
   refine x_if [(b38, true)] rfl rfl rfl rfl rfl (fun hg => by obtain ⟨hg0, hg1, _⟩ := hg; subst hg0; subst hg1; (try simp only [Qy]); exact v_move rfl) ?_
   refine x_ifb [(b38, true)] rfl rfl rfl rfl rfl (fun hg => by obtain ⟨hg0, hg1, _⟩ := hg; subst hg0; subst hg1; (try simp only [Qy]); exact v_lss rfl rfl) fun b46 hb46 => ?_
   refine Xj rfl rfl rfl (fun hg0 => by subst hg0; (try simp only [Qy]); exact v_or rfl rfl) fun b47 hb47 => ?_
   refine Xb rfl (v_and rfl rfl) fun b48 hb48 => ?_
   refine Ze (Zt ?_)
   refine w_cond rfl (fun hc48 => ?_) fun hc48 => ?_
   ·simp only [hb48, hb47, hb46, hb41, hb38, Qz, ne_eq] at hc48
    have hnb : namedB (foldS t) hs[k].g = true := decide_eq_true hc48.1
    rw [if_pos ⟨hnb, hc48.2⟩] at hst
    refine Zr ?_
    refine Xf 0 rfl u148 rfl sz3 ?_
    refine Xv rfl (Vl u3 rfl) ?_
    refine Xa ?_
    refine Ze ?_
    exact c_norm () trivial (by rw [hst]; repeat (first | exact Sub.nil | refine Sub.cons rfl ?_)) (fun _ h => h)
   simp only [hb48, hb47, hb46, hb41, hb38, Qz, ne_eq] at hc48
   have hst2 : ¬(namedB (foldS t) hs[k].g = true ∧ ((leastB (namedB (foldS t)) (gsR (hs.take k))) = 0 ∨ hs[k].g.id < (leastB (namedB (foldS t)) (gsR (hs.take k))))) := fun h => by
    have h1 := of_decide_eq_true h.1
    rcases hc48 with h2 | h2
    ·exact h2 h1
    rcases h.2 with h3 | h3
    ·exact h2.1 h3
    exact h2.2 h3
   rw [if_neg hst2] at hst
   refine w_skip ?_
   exact c_norm () trivial (by rw [hst]; repeat (first | exact Sub.nil | refine Sub.cons rfl ?_)) (fun _ h => h)
  rintro _ _
  refine Zs (Zr ?_)
  refine Xa ?_
  refine Ze (Zt (w_block ?_))
  refine w_loop (σ := Nat) (fun j => j ≤ hs[k].g.oth.length) (fun j => [(0, Pt ps), (6, Value.string (foldS t)), (7, Vi (leastB (namedB (foldS t)) (gsR (hs.take (k + 1))))), (8, Vi (othA (leastB (alsoB (foldS t)) (gsR (hs.take k))) hs[k].g.id (amg ((hs[k].g.oth.map foldS).take j) (foldS t)))), (9, Vi (k : Nat)), (10, Pt p10), (11, Vi (j : Nat))]) (fun j => [(Bk p10 (hrC hs[k]) 148)]) (fun j => [(w, fun _ => True)]) (fun j => hs[k].g.oth.length - j) (0) (Nat.zero_le _) (l_start Zu (fun _ h => h)) ?_
  rintro j hj
  refine w_state ([(0, Pt ps), (6, Value.string (foldS t)), (7, Vi (leastB (namedB (foldS t)) (gsR (hs.take (k + 1))))), (8, Vi (othA (leastB (alsoB (foldS t)) (gsR (hs.take k))) hs[k].g.id (amg ((hs[k].g.oth.map foldS).take j) (foldS t)))), (9, Vi (k : Nat)), (10, Pt p10), (11, Vi (j : Nat))]) ([(Bk p10 (hrC hs[k]) 148)]) ([(w, fun _ => True)]) ?_
  refine Zs (Zs (Zr ?_))
  refine Xm ?_
  refine Xf 2 rfl u148 rfl sz38 ?_
  refine Xv rfl (Vl u38 rfl) ?_
  refine Xv (v := Vi (hs[k].g.oth.length : Nat)) rfl (v_len_slice u38 rfl) ?_
  refine Xb rfl (v_lss rfl rfl) fun b55 hb55 => ?_
  refine Ze (Zt ?_)
  refine w_cond rfl (fun hc55 => ?_) fun hc55 => ?_
  ·simp only [hb55, Qz, ne_eq] at hc55
   have hjl : j < hs[k].g.oth.length := by omega
   obtain ⟨g2, cs2, cp2, hO2, hcp2, hcl2⟩ := row_at (c := fun s : ByteArray => [Value.string s]) (m := 1) (fun _ => rfl) (by decide) (by rw [flat1]; exact (hR.ok _ (List.getElem_mem hkl)).1) hjl
   have hcell2 : w.cell? ⟨g2, j, none⟩ = some (.string hs[k].g.oth[j]) := by
    have hg := hR.rows _ (List.getElem_mem hkl) (g2, .cells cs2.toArray 9 (0, 0)) (List.mem_append_left _ (by rw [hO2]; exact .head _))
    rw [cell_of_row w g2 _ _ 9 (0, 0) hg, List.getElem?_toArray]; have := hcl2 0 (by decide); rw [Nat.mul_one, Nat.add_zero] at this; exact this
   refine w_skip (Zt ?_)
   refine w_seq_cut (σ := Unit) (fun z9 => True) (fun z9 => [(0, Pt ps), (6, Value.string (foldS t)), (7, Vi (leastB (namedB (foldS t)) (gsR (hs.take (k + 1))))), (8, Vi (othA (leastB (alsoB (foldS t)) (gsR (hs.take k))) hs[k].g.id (amg ((hs[k].g.oth.map foldS).take (j + 1)) (foldS t)))), (9, Vi (k : Nat)), (10, Pt p10), (11, Vi (j : Nat))]) (fun z9 => [(Bk p10 (hrC hs[k]) 148)]) (fun z9 => [(w, fun _ => True)]) ?_ ?_
   ·refine w_block ?_
    refine Zs (Zr ?_)
    refine Xf 2 rfl u148 rfl sz38 ?_
    refine Xv rfl (Vl u38 rfl) ?_
    refine Xm ?_
    refine Xv rfl (v_indexAddr u38 sz9 (congrArg (fun R => some (rowV R hs[k].g.oth.length)) hO2) rfl (hjl) rfl) ?_
    refine Xl rfl u9 rfl (at_ro (.head _) trivial (v := Value.string hs[k].g.oth[j]) (by rw [Nat.zero_add, Nat.mul_one]; exact hcell2)) ?_
    refine x_callv rfl rfl rfl Tryz.func22 Zk rfl (fun w1 hw1 => r_Fold _ w1 (hszk.2 _ (List.getElem_mem hjl))) ?_
    refine Xm ?_
    refine Xb rfl (v_seql rfl rfl) fun b65 hb65 => ?_
    refine Xm ?_
    refine Xg ?_
    refine Xj rfl rfl rfl (fun hg0 => by subst hg0; (try simp only [Qy]); exact v_eql rfl rfl) fun b68 hb68 => ?_
    refine Xg ?_
    refine x_if [(b65, true)] rfl rfl rfl rfl rfl (fun hg => by obtain ⟨hg0, hg1, _⟩ := hg; subst hg0; subst hg1; (try simp only [Qy]); exact v_fieldAddr (off' := 0) u148 rfl sz3 (by decide) rfl rfl) ?_
    refine x_if [(b65, true)] rfl rfl rfl rfl rfl (fun hg => by obtain ⟨hg0, hg1, _⟩ := hg; subst hg0; subst hg1; (try simp only [Qy]); exact Vl u3 rfl) ?_
    refine x_if [(b65, true)] rfl rfl rfl rfl rfl (fun hg => by obtain ⟨hg0, hg1, _⟩ := hg; subst hg0; subst hg1; (try simp only [Qy]); exact v_move rfl) ?_
    refine x_ifb [(b65, true)] rfl rfl rfl rfl rfl (fun hg => by obtain ⟨hg0, hg1, _⟩ := hg; subst hg0; subst hg1; (try simp only [Qy]); exact v_lss rfl rfl) fun b73 hb73 => ?_
    refine Xj rfl rfl rfl (fun hg0 => by subst hg0; (try simp only [Qy]); exact v_or rfl rfl) fun b74 hb74 => ?_
    refine Xb rfl (v_and rfl rfl) fun b75 hb75 => ?_
    refine Ze (Zt ?_)
    refine w_cond rfl (fun hc75 => ?_) fun hc75 => ?_
    ·simp only [hb75, hb74, hb73, hb68, hb65, Qz, ne_eq] at hc75
     have hno := othA_yes (o := (leastB (alsoB (foldS t)) (gsR (hs.take k)))) (l := (hs[k].g.oth.map foldS).take j) hid hc75.1 hc75.2
     refine Zr ?_
     refine Xf 0 rfl u148 rfl sz3 ?_
     refine Xv rfl (Vl u3 rfl) ?_
     refine Xa ?_
     refine Ze (b_norm ?_)
     exact c_norm () trivial (by rw [show (hs[k].g.oth.map foldS).take (j + 1) = (hs[k].g.oth.map foldS).take j ++ [foldS hs[k].g.oth[j]] from by rw [List.take_succ_eq_append_getElem (by rw [List.length_map]; exact hjl), List.getElem_map]]; rw [← hno]; repeat (first | exact Sub.nil | refine Sub.cons rfl ?_)) (fun _ h => h)
    simp only [hb75, hb74, hb73, hb68, hb65, Qz, ne_eq] at hc75
    have hno := othA_no (o := (leastB (alsoB (foldS t)) (gsR (hs.take k)))) (l := (hs[k].g.oth.map foldS).take j) (t := (foldS t)) (s := foldS hs[k].g.oth[j]) hid (fun h => by
     rcases hc75 with h2 | h2
     ·exact h2 h.1
     rcases h.2 with h3 | h3
     ·exact h2.1 h3
     exact h2.2 h3)
    refine w_skip (b_norm ?_)
    exact c_norm () trivial (by rw [show (hs[k].g.oth.map foldS).take (j + 1) = (hs[k].g.oth.map foldS).take j ++ [foldS hs[k].g.oth[j]] from by rw [List.take_succ_eq_append_getElem (by rw [List.length_map]; exact hjl), List.getElem_map]]; rw [← hno]; repeat (first | exact Sub.nil | refine Sub.cons rfl ?_)) (fun _ h => h)
   rintro _ _
   refine Zr ?_
   refine Xm ?_
   refine Xv rfl (v_addi rfl rfl rfl Zo) ?_
   refine Xa ?_
   refine Ze ?_
   exact l_norm (j + 1) hjl (by omega) Zu (fun _ h => h)
  simp only [hb55, Qz, ne_eq] at hc55
  obtain rfl : j = hs[k].g.oth.length := by omega
  rw [show (hs[k].g.oth.map foldS).take hs[k].g.oth.length = hs[k].g.oth.map foldS from List.take_of_length_le (by rw [List.length_map]; exact Nat.le_refl _)]
  have hal : othA (leastB (alsoB (foldS t)) (gsR (hs.take k))) hs[k].g.id (amg (hs[k].g.oth.map foldS) (foldS t)) = (leastB (alsoB (foldS t)) (gsR (hs.take (k + 1)))) := hsu.symm
  rw [hal]
  refine w_exit ?_
  refine t_exit ?_
  refine t_exit ?_
  refine b_hit ?_
  refine b_norm (Zt (Zr ?_))
  refine Xm ?_
  refine Xv rfl (v_addi rfl rfl rfl Zo) ?_
  refine Xa ?_
  refine Ze ?_
  exact l_norm (k + 1) ⟨hkl, .inr hc24.2⟩ (by omega) Zu (fun _ h => h.less (List.nil_sublist _) (fun _ h => h))
 simp only [hb24, hb23, hb20, Qz, ne_eq] at hc24
 have hfin : findF (gsR hs) t = if (leastB (namedB (foldS t)) (gsR (hs.take k))) > 0 then ((leastB (namedB (foldS t)) (gsR (hs.take k))), true) else ((leastB (alsoB (foldS t)) (gsR (hs.take k))), decide ((leastB (alsoB (foldS t)) (gsR (hs.take k))) > 0)) := by
  have hp : ∀ h ∈ gsR hs, 1 ≤ h.id := fun h hh => (hacy.pos h hh).1
  by_cases h0 : (foldS t) = ⟨#[]⟩
  ·obtain rfl : k = 0 := hor.resolve_right (fun h => h h0)
   rw [findF_nil h0]; rfl
  obtain rfl : k = hs.length := by rcases hc24 with h | h; (· omega); exact absurd h h0
  rw [List.take_of_length_le (Nat.le_refl _)]
  by_cases h1 : leastB (namedB (foldS t)) (gsR hs) > 0
  ·rw [if_pos h1, findF_pos h0 h1]
  rw [if_neg h1, findF_neg hp h0 h1]
 refine w_exit ?_
 refine t_exit ?_
 refine t_exit ?_
 refine b_hit ?_
 refine Zt (Zs (Zs (Zr ?_)))
 refine Xm ?_
 refine Xb rfl (v_gtr rfl rfl) fun b79 hb79 => ?_
 refine Ze (Zt ?_)
 refine w_cond rfl (fun hc79 => ?_) fun hc79 => ?_
 ·simp only [hb79, Qz, ne_eq] at hc79
  rw [if_pos hc79] at hfin
  refine Zs (Zr ?_)
  refine Xm ?_
  refine Xa ?_
  refine Xa ?_
  refine Ze (Zt (w_ret (t_ret ?_)))
  rw [hfin]
  exact ret2 rfl rfl rfl (fun w' hm => ⟨rfl, hm.base (by simp)⟩)

 simp only [hb79, Qz, ne_eq] at hc79
 rw [if_neg hc79] at hfin
 refine w_skip (Zt (Zs (Zr ?_)))
 refine Xm ?_
 refine Xm ?_
 refine Xb rfl (v_gtr rfl rfl) fun b83 hb83 => ?_
 refine Xa ?_
 refine Xa ?_
 refine Ze (Zt (w_ret ?_))
 rw [hfin]
 exact ret2 rfl rfl rfl (fun w' hm => ⟨by rw [hb83], hm.base (by simp)⟩)

open Go.RowKit Go.PK
set_option maxHeartbeats 1000000 in
theorem r_ResolveS {ps : Nat} {H : RowS} {hs : List HR} (w : World) (hR : RdR w ps H hs) (hlen : hs.length ≤ 100000) (hacy : Acy (gsR hs)) (hsl : ∀ x ∈ hs, x.g.spl.length ≤ 100000) (h : Int) (t : ByteArray) (ht : t.size ≤ 4000000) :
  Calls Tryz.prog 67 #[Pt ps, Vi h, .string t] w fun e w' => e = .returned (.tuple #[Vi (resolveF (gsR hs) (wordsP t) h).1, .bool (resolveF (gsR hs) (wordsP t) h).2]) ∧ Later w w' := by
 refine enter (vs := [Pt ps, Vi h, .string t]) Tryz.func67 rfl Tryz.ntmps67 rfl ?_
 refine Zs (Zr ?_)
 refine Xa ?_
 refine Xa ?_
 refine Ze (Zt (Zs (Zs (Zr ?_))))
 refine Xm ?_
 refine Xm ?_
 refine x_callv rfl rfl rfl Tryz.func96 Zk rfl (fun w1 hw1 => r_find w1 (hR.later (hw1.base (by simp))) hlen h) ?_
 refine Xb rfl (v_lss rfl rfl) fun b16 hb16 => ?_
 refine Ze (Zt ?_)
 refine w_cond rfl (fun hc16 => ?_) fun hc16 => ?_
 ·simp only [hb16, Qz, ne_eq] at hc16
  have hno := (fdR_lk hs h).2.1 hc16
  have hfn : resolveF (gsR hs) (wordsP t) h = (0, false) := by unfold resolveF; rw [hno]
  rw [hfn]
  refine Zs (Zr ?_)
  refine Xa ?_
  refine Xa ?_
  refine Ze (Zt (w_ret (t_ret ?_)))
  exact ret2 rfl rfl rfl (fun w' hm => ⟨rfl, hm.base (by simp)⟩)
 simp only [hb16, Qz, ne_eq] at hc16
 obtain ⟨g9, hg9⟩ := Option.isSome_iff_exists.1 ((fdR_lk hs h).2.2.1 (Int.not_lt.1 hc16))
 obtain ⟨n0, hn0⟩ := hacy.res (wordsP t) hg9
 have hfn : resolveF (gsR hs) (wordsP t) h = (resF (gsR hs) (wordsP t) h, true) := by unfold resolveF; rw [hg9]
 rw [hfn]
 refine w_skip (Zt (Zs (Zr ?_)))
 refine Xm ?_
 refine x_own (τ := RowS) (fun r => rowV r (wordsP t).length) (fun r => rowOK 1 r (wordsP t).length ((wordsP t).map Value.string)) (fun r => rowO 9 r) rfl rfl rfl Tryz.func21 Zk rfl (fun w1 hw1 => (r_Words t w1 ht).mono fun e w2 ⟨r, h1, h2, h3⟩ => ⟨r, h1, h3.base (by simp), h2, hw1.join h3⟩) fun r hrw => ?_
 refine Xa ?_
 refine Ze (Zt (w_block ?_))
 refine w_loop (σ := Nat × Int) (fun q => EndsN (gsR hs) (wordsP t) q.1 q.2 (resF (gsR hs) (wordsP t) h)) (fun q => [(0, Pt ps), (1, Vi q.2), (8, rowV r (wordsP t).length)]) (fun q => rowO 9 r) (fun q => [(w, fun _ => True)]) (fun q => q.1) ((n0, h)) (hn0) (l_start Zu (fun _ h => h)) ?_
 rintro ⟨n, cur⟩ hE
 refine w_state ([(0, Pt ps), (1, Vi cur), (8, rowV r (wordsP t).length)]) (rowO 9 r) ([(w, fun _ => True)]) ?_
 dsimp only at hE
 obtain ⟨g0, hg0⟩ := hE.look
 obtain ⟨i, hi, hf⟩ := fidx_lt ((fdR_lk hs cur).2.2.2 (by rw [hg0]; rfl))
 have hf : fdR hs cur = (i : Nat) := hf
 have hlk := (fdR_lk hs cur).1 i hi hf
 have hpz := hacy.pos hs[i].g (List.mem_map_of_mem (List.getElem_mem hi))
 have hsli := hsl _ (List.getElem_mem hi)
 obtain ⟨g, cs, cp, hRg, hcp, hcl⟩ := hR.row.cells (c := hrC) (m := 5) (fun _ => rfl) (by decide) hi
 refine w_block (Zs ?_)
 refine rg_draw 10 [(true, 0), (true, 1), (true, 2), (true, 3), (true, 4), (true, 5), (true, 6), (true, 7), (true, 8), (false, 9)] Zk Zk ?_
 refine Xm ?_
 refine Xn ?_
 refine Xf 0 rfl u144 rfl sz142 ?_
 refine Xl rfl u142 rfl (at_ro (.head _) trivial hR.st) ?_
 refine Xm ?_
 refine Xm ?_
 refine x_callv (v := Vi ((i : Nat) : Int)) rfl rfl rfl Tryz.func96 Zk rfl (fun w1 hw1 => by rw [← hf]; exact r_find w1 (hR.later (hw1.base (by simp))) hlen cur) ?_
 refine Xv rfl (v_indexAddr u142 sz148 (congrArg (fun R => some (rowV R hs.length)) hRg) rfl (hi) rfl) ?_
 refine Xv rfl (v_loadN (vs := hrC hs[i]) u148 rfl sz148 rfl (fun i9 hi9 => at_ro (.head _) trivial (by rw [Nat.zero_add]; exact (hcl i9 hi9).trans (List.getElem?_eq_getElem hi9)))) ?_
 refine x_alloc rfl rfl rfl zr148 ?_
 intro p9
 refine x_store0 [] rfl rfl rfl rfl sz148 rfl rfl ?_
 refine Ze (Zt (Zs (Zr ?_)))
 refine Xf 4 rfl u148 rfl sz3 ?_
 refine Xv rfl (Vl u3 rfl) ?_
 refine Xa ?_
 refine Ze (Zt (Zs (Zs (Zr ?_))))
 refine Xa ?_
 refine Ze (Zt (w_block ?_))
 refine w_loop (σ := Nat × Int) (fun z => z.1 ≤ hs[i].g.spl.length ∧ 0 ≤ z.2 ∧ (z.2 = 0 → hs[i].g.into = 0 ∧ ∀ m (hm : m < hs[i].g.spl.length), m < z.1 → amg (wordsP t) hs[i].g.spl[m].1 = false) ∧ (z.2 ≠ 0 → stepR (wordsP t) hs[i].g = z.2)) (fun z => [(0, Pt ps), (1, Vi cur), (8, rowV r (wordsP t).length), (9, Pt p9), (10, Vi z.2), (11, Vi (z.1 : Nat))]) (fun z => (Bk p9 (hrC hs[i]) 148) :: rowO 9 r) (fun z => [(w, fun _ => True)]) (fun z => hs[i].g.spl.length - z.1) ((0, hs[i].g.into)) (⟨Nat.zero_le _, hpz.2.1, fun h0 => ⟨h0, fun m hm hm0 => absurd hm0 (Nat.not_lt_zero _)⟩, fun h0 => by have h1 := hpz.2.1; unfold stepR; dsimp only at h0 ⊢; rw [if_pos (by omega)]⟩) (l_start Zu (fun _ h => h)) ?_
 rintro ⟨j, nx⟩ ⟨hj, hnx, hz0, hz1⟩
 refine w_state ([(0, Pt ps), (1, Vi cur), (8, rowV r (wordsP t).length), (9, Pt p9), (10, Vi nx), (11, Vi (j : Nat))]) ((Bk p9 (hrC hs[i]) 148) :: rowO 9 r) ([(w, fun _ => True)]) ?_
 dsimp only at hj hnx hz0 hz1
 refine Zs (Zs (Zr ?_))
 refine Xm ?_
 refine Xf 3 rfl u148 rfl sz146 ?_
 refine Xv rfl (Vl u146 rfl) ?_
 refine Xv (v := Vi (hs[i].g.spl.length : Nat)) rfl (v_len_slice u146 rfl) ?_
 refine Xb rfl (v_lss rfl rfl) fun b34 hb34 => ?_
 refine Xm ?_
 refine Xg ?_
 refine Xj rfl rfl rfl (fun hg0 => by subst hg0; (try simp only [Qy]); exact v_eql rfl rfl) fun b37 hb37 => ?_
 refine Xb rfl (v_and rfl rfl) fun b38 hb38 => ?_
 refine Ze (Zt ?_)
 refine w_cond rfl (fun hc38 => ?_) fun hc38 => ?_
 ·simp only [hb38, hb37, hb34, Qz, ne_eq] at hc38
  have hjl : j < hs[i].g.spl.length := by omega
  obtain ⟨g2, cs2, cp2, hS2, hcp2, hcl2⟩ := row_at (c := splC) (m := 2) (fun _ => rfl) (by decide) (hR.ok _ (List.getElem_mem hi)).2 hjl
  have hcell2 : ∀ q v, (splC hs[i].g.spl[j])[q]? = some v → w.cell? ⟨g2, j * 2 + q, none⟩ = some v := fun q v hv => by
   have hg := hR.rows _ (List.getElem_mem hi) (g2, .cells cs2.toArray 150 (0, 0)) (List.mem_append_right _ (by rw [hS2]; exact .head _))
   rw [cell_of_row w g2 _ _ 150 (0, 0) hg, List.getElem?_toArray, hcl2 q (List.getElem?_eq_some_iff.1 hv).1]; exact hv
  refine w_skip (Zt (Zs (w_block (Zs (Zr ?_)))))
  refine Xm ?_
  refine Xf 3 rfl u148 rfl sz146 ?_
  refine Xv rfl (Vl u146 rfl) ?_
  refine Xm ?_
  refine Xv rfl (v_indexAddr u146 sz150 (congrArg (fun R => some (rowV R hs[i].g.spl.length)) hS2) rfl (hjl) rfl) ?_
  refine Xf _ rfl u150 rfl sz9 ?_
  refine Xl rfl u9 rfl (at_ro (.head _) trivial (v := Value.string hs[i].g.spl[j].1) (by show w.cell? ⟨g2, 0 + j * 2 + 0, none⟩ = _; rw [Nat.zero_add]; exact hcell2 0 _ rfl)) ?_
  refine x_callb rfl rfl rfl Tryz.func66 Zk rfl (fun w1 hw1 => r_among w1 (hw1.rowR (by rw [flat1]; exact hrw) (fun q hq => .tail _ hq)) (by have := wordsP_len t; omega)) fun b48 hb48 => ?_
  refine Xa ?_
  refine Ze (Zt (Zs (Zr ?_)))
  refine Xm ?_
  refine Ze (Zt ?_)
  refine w_cond rfl (fun hc49 => ?_) fun hc49 => ?_
  ·simp only [hb48, Qz, ne_eq] at hc49
   have hy : amg (wordsP t) hs[i].g.spl[j].1 = true := hc49
   refine Zr ?_
   refine Xf 3 rfl u148 rfl sz146 ?_
   refine Xv rfl (Vl u146 rfl) ?_
   refine Xm ?_
   refine Xv rfl (v_indexAddr u146 sz150 (congrArg (fun R => some (rowV R hs[i].g.spl.length)) hS2) rfl (hjl) rfl) ?_
   refine Xf _ rfl u150 rfl sz3 ?_
   refine Xl rfl u3 rfl (at_ro (.head _) trivial (v := Vi hs[i].g.spl[j].2) (by show w.cell? ⟨g2, 0 + j * 2 + 1, none⟩ = _; rw [Nat.zero_add]; exact hcell2 1 _ rfl)) ?_
   refine Xa ?_
   refine Ze (b_norm (Zt (Zr ?_)))
   refine Xm ?_
   refine Xv rfl (v_addi rfl rfl rfl Zo) ?_
   refine Xa ?_
   refine Ze ?_
   have hp1 := hpz.2.2 _ (List.getElem_mem hjl)
   obtain ⟨hi0, hall⟩ := hz0 hc38.2
   exact l_norm (j + 1, hs[i].g.spl[j].2) ⟨hjl, by dsimp only; omega, fun h0 => by dsimp only at h0; omega, fun _ => by
    have e1 : fidx (fun q : ByteArray × Int => amg (wordsP t) q.1) hs[i].g.spl = (j : Nat) := fidx_at hjl hy (fun m hm hmj => hall m hm hmj)
    unfold stepR
    rw [if_neg (by omega)]
    exact spl_yes hjl e1⟩ (by simp only; omega) Zu (fun _ h => h)
  simp only [hb48, Qz, ne_eq] at hc49
  have hy : amg (wordsP t) hs[i].g.spl[j].1 = false := hc49
  refine w_skip (b_norm (Zt (Zr ?_)))
  refine Xm ?_
  refine Xv rfl (v_addi rfl rfl rfl Zo) ?_
  refine Xa ?_
  refine Ze ?_
  obtain ⟨hi0, hall⟩ := hz0 hc38.2
  exact l_norm (j + 1, nx) ⟨hjl, hnx, fun h0 => ⟨hi0, fun m hm hmj => by dsimp only at hmj; rcases Nat.lt_succ_iff_lt_or_eq.1 hmj with h2 | rfl; (· exact hall m hm h2); exact hy⟩, fun h0 => absurd hc38.2 h0⟩ (by simp only; omega) Zu (fun _ h => h)
 simp only [hb38, hb37, hb34, Qz, ne_eq] at hc38
 skip
 refine w_exit ?_
 refine t_exit ?_
 refine t_exit ?_
 refine b_hit ?_
 refine Zt (Zs (Zs (Zr ?_)))
 refine Xm ?_
 refine Xb rfl (v_eql rfl rfl) fun b57 hb57 => ?_
 refine Ze (Zt ?_)
 refine w_cond rfl (fun hc57 => ?_) fun hc57 => ?_
 ·simp only [hb57, Qz, ne_eq] at hc57
  have hst : stepR (wordsP t) hs[i].g = 0 := by
   obtain ⟨hi0, hall⟩ := hz0 hc57
   unfold stepR
   rw [if_neg (by omega)]
   have e1 : fidx (fun q : ByteArray × Int => amg (wordsP t) q.1) hs[i].g.spl = -1 := fidx_none (fun m hm => hall m hm (by rcases hc38 with h | h; (· omega); exact absurd hc57 h))
   exact spl_no (by rw [e1]; decide)
  have hfin := hE.fin hlk hst
  rw [hfin]
  refine Zs (Zr ?_)
  refine Xm ?_
  refine Xa ?_
  refine Xa ?_
  refine Ze (Zt (w_ret (t_ret (b_ret (t_ret (b_ret ?_))))))
  exact ret2 rfl rfl rfl (fun w' hm => ⟨rfl, hm.base (by simp)⟩)
 simp only [hb57, Qz, ne_eq] at hc57
 have hst := hz1 hc57
 obtain ⟨n2, rfl, hE2⟩ := hE.next hlk (by rw [hst]; exact hc57)
 rw [hst] at hE2
 refine w_skip (Zt (Zr ?_))
 refine Xm ?_
 refine Xa ?_
 refine Ze (b_norm ?_)
 exact l_norm (n2, nx) hE2 (Nat.lt_succ_self _) Zu (fun _ h => h.less (List.sublist_cons_self _ _) (fun _ h => h))
theorem r_Find {pm : Nat} {M : RowS} {fs : List FD} (w : World) (hp : w.cell? ⟨pm, 0, none⟩ = some (rowV M fs.length)) (hR : rowOK 6 M fs.length (fdsC fs)) (hW : ∀ q ∈ rowO 28 M, w.heap[q.1]? = some q.2) (hok : FsOK fs) (hsz : ∀ q ∈ fs, q.txt.size ≤ 4000000) (t : ByteArray) (ht : t.size ≤ 4000000) :
  Calls Tryz.prog 75 #[Pt pm, .string t] w fun e w' => e = .returned (.tuple #[Vi (findF (stF fs).hs t).1, .bool (findF (stF fs).hs t).2]) ∧ Later w w' := by
 refine enter (vs := [Pt pm, .string t]) Tryz.func75 rfl Tryz.ntmps75 rfl ?_
 refine Zs (Zr ?_)
 refine Xa ?_
 refine Xa ?_
 refine Ze (Zt (Zs (Zr ?_)))
 refine Xm ?_
 refine x_own (τ := SR) (fun x => Pt x.ps) (fun x => SRK x (stF fs)) (fun x => SRO x (stF fs).ref.length) rfl rfl rfl Tryz.func65 Zk rfl (fun w1 hw1 => (r_State (pm := pm) w1 ((World.cell?_of_block (a := ⟨pm, 0, none⟩) ((hw1.base (w0 := w) (by simp)).block pm (cell_lt hp))).trans hp) hR (fun q hq => ((hw1.base (w0 := w) (by simp)).block _ (heap_lt (hW q hq))).trans (hW q hq)) hok hsz).mono fun e w2 ⟨x, h1, h2, h3⟩ => ⟨x, h1, h3.base (by simp), h2, hw1.join h3⟩) fun x hx => ?_
 have hlen8 : x.hs.length ≤ 100000 := by have q1 := (fs_bnd' hok).hs; rw [← hx.hs] at q1; unfold gsR at q1; rw [List.length_map] at q1; omega
 have hbd8 := fs_bnd' hok
 have hacy8 : Acy (gsR x.hs) := by rw [hx.hs]; exact fs_acy' hok
 have hsz8 : ∀ y ∈ x.hs, szH 4000000 y.g := fun y hy => sz_stF hsz y.g (by rw [← hx.hs]; exact List.mem_map_of_mem hy)
 have hol8 : ∀ y ∈ x.hs, y.g.oth.length ≤ 100000 ∧ y.g.spl.length ≤ 100000 := fun y hy => by have q1 := hbd8.oth y.g (by rw [← hx.hs]; exact List.mem_map_of_mem hy); omega
 refine Xm ?_
 refine x_callv (v := Value.tuple #[Vi (findF (stF fs).hs t).1, .bool (findF (stF fs).hs t).2]) rfl rfl rfl Tryz.func97 Zk rfl (fun w1 hw1 => by rw [← hx.hs]; exact r_FindS w1 (hx.rd (L := []) (hw1.to (by rw [List.append_nil]))) hlen8 hacy8 hsz8 (fun y hy => (hol8 y hy).1) t ht) ?_
 refine Xe ?_
 refine Xb rfl (v_extract rfl rfl) fun b11 hb11 => ?_
 refine Xa ?_
 refine Xa ?_
 refine Ze (Zt (w_ret ?_))
 exact ret2 rfl rfl rfl (fun w' hm => ⟨by rw [hb11]; rfl, hm.base (by simp)⟩)
theorem r_Resolve {pm : Nat} {M : RowS} {fs : List FD} (w : World) (hp : w.cell? ⟨pm, 0, none⟩ = some (rowV M fs.length)) (hR : rowOK 6 M fs.length (fdsC fs)) (hW : ∀ q ∈ rowO 28 M, w.heap[q.1]? = some q.2) (hok : FsOK fs) (hsz : ∀ q ∈ fs, q.txt.size ≤ 4000000) (h : Int) (t : ByteArray) (ht : t.size ≤ 4000000) :
  Calls Tryz.prog 77 #[Pt pm, Vi h, .string t] w fun e w' => e = .returned (.tuple #[Vi (resolveF (stF fs).hs (wordsP t) h).1, .bool (resolveF (stF fs).hs (wordsP t) h).2]) ∧ Later w w' := by
 refine enter (vs := [Pt pm, Vi h, .string t]) Tryz.func77 rfl Tryz.ntmps77 rfl ?_
 refine Zs (Zr ?_)
 refine Xa ?_
 refine Xa ?_
 refine Ze (Zt (Zs (Zr ?_)))
 refine Xm ?_
 refine x_own (τ := SR) (fun x => Pt x.ps) (fun x => SRK x (stF fs)) (fun x => SRO x (stF fs).ref.length) rfl rfl rfl Tryz.func65 Zk rfl (fun w1 hw1 => (r_State (pm := pm) w1 ((World.cell?_of_block (a := ⟨pm, 0, none⟩) ((hw1.base (w0 := w) (by simp)).block pm (cell_lt hp))).trans hp) hR (fun q hq => ((hw1.base (w0 := w) (by simp)).block _ (heap_lt (hW q hq))).trans (hW q hq)) hok hsz).mono fun e w2 ⟨x, h1, h2, h3⟩ => ⟨x, h1, h3.base (by simp), h2, hw1.join h3⟩) fun x hx => ?_
 have hlen8 : x.hs.length ≤ 100000 := by have q1 := (fs_bnd' hok).hs; rw [← hx.hs] at q1; unfold gsR at q1; rw [List.length_map] at q1; omega
 have hbd8 := fs_bnd' hok
 have hacy8 : Acy (gsR x.hs) := by rw [hx.hs]; exact fs_acy' hok
 have hsz8 : ∀ y ∈ x.hs, szH 4000000 y.g := fun y hy => sz_stF hsz y.g (by rw [← hx.hs]; exact List.mem_map_of_mem hy)
 have hol8 : ∀ y ∈ x.hs, y.g.oth.length ≤ 100000 ∧ y.g.spl.length ≤ 100000 := fun y hy => by have q1 := hbd8.oth y.g (by rw [← hx.hs]; exact List.mem_map_of_mem hy); omega
 refine Xm ?_
 refine Xm ?_
 refine x_callv (v := Value.tuple #[Vi (resolveF (stF fs).hs (wordsP t) h).1, .bool (resolveF (stF fs).hs (wordsP t) h).2]) rfl rfl rfl Tryz.func67 Zk rfl (fun w1 hw1 => by rw [← hx.hs]; exact r_ResolveS w1 (hx.rd (L := []) (hw1.to (by rw [List.append_nil]))) hlen8 hacy8 (fun y hy => (hol8 y hy).2) h t ht) ?_
 refine Xe ?_
 refine Xb rfl (v_extract rfl rfl) fun b14 hb14 => ?_
 refine Xa ?_
 refine Xa ?_
 refine Ze (Zt (w_ret ?_))
 exact ret2 rfl rfl rfl (fun w' hm => ⟨by rw [hb14]; rfl, hm.base (by simp)⟩)
open Go.RowKit Go.PK
theorem q_at {n : Nat} {D : Nat → Prop} {w : World} {A : Option Addr} {cp : Nat} {qs : List (List Int)} (h : sliceRd (tyArr (tyK .i64) n) D w (.slice A qs.length cp) qs) {k : Nat} (hk : k < qs.length) : ∃ b o, A = some ⟨b, o, none⟩ ∧ D b ∧ qs[k].length = n ∧ (∀ x ∈ qs[k], in64 x) ∧ ∀ j (hj : j < (qs[k].map (Value.int .i64)).length), w.cell? ⟨b, o + k * n + j, none⟩ = some (qs[k].map (Value.int .i64))[j] := by
 obtain ⟨A', c', hv, h1, h2, h3⟩ := h
 injection hv with e1 e2 e3
 subst e1 e3
 obtain ⟨b, o, e, hD, _, hc⟩ := h3 (by omega)
 obtain ⟨cs, k1, k2⟩ := hc k hk
 obtain ⟨rfl, k3, k4⟩ := arr_k k2
 rw [tyArr_size, show n * (tyK IntKind.i64).size = n from Nat.mul_one n] at k1
 exact ⟨b, o, e, hD, k3, k4, fun j hj => k1 j hj⟩
theorem four {l : List Int} (h : l.length = 4) : ∃ q0 q1 q2 q3, l = [q0, q1, q2, q3] := by
 match l, h with
 | [q0, q1, q2, q3], _ => exact ⟨q0, q1, q2, q3, rfl⟩
theorem fd_in {x : FD} (h : smF x) : inFD x := by
 have h1 := h.size
 obtain ⟨a1, a2, a3, a4, a5, a6, a7, a8, a9, a10, a11⟩ := h
 unfold inFD in64
 omega
set_option maxHeartbeats 2000000 in
theorem r_Feeds {A0 : Option Addr} {c0 : Nat} {qs : List (List Int)} (w : World) (hq : sliceRd (tyArr (tyK .i64) 4) (fun _ => True) w (.slice A0 qs.length c0) qs) :
  Calls Tryz.prog 23 #[.slice A0 qs.length c0] w fun e w' => ∃ R', e = .returned (rowV R' (feedsF qs).length) ∧ rowOK 6 R' (feedsF qs).length (fdsC (feedsF qs)) ∧ Mem w' (rowO 28 R') [(w, fun _ => True)] := by
 refine enter (vs := [.slice A0 qs.length c0]) Tryz.func23 rfl Tryz.ntmps23 rfl ?_
 refine Zs (Zr ?_)
 refine Xa ?_
 refine Ze (Zt (Zs (Zr ?_)))
 refine x_buildSliceL (cs := nameL.map Value.string) rfl rfl rfl u38 sz9 zr9 rfl rfl Zk ?_
 intro p9
 refine Xa ?_
 refine Ze (Zt (Zs (Zr ?_)))
 refine Xa ?_
 refine Ze (Zt (Zs (Zs (Zr ?_))))
 refine Xa ?_
 refine Ze (Zt (w_block ?_))
 refine w_loop (σ := Nat × RowS) (fun z => z.1 ≤ qs.length ∧ z.1 ≤ 60 ∧ rowOK 6 z.2 z.1 (fdsC ((feedsF qs).take z.1))) (fun z => [(0, Value.slice A0 qs.length c0), (3, Value.slice (some ⟨p9, 0, none⟩) 10 10), (4, rowV z.2 z.1), (5, Vi (z.1 : Nat))]) (fun z => (Bk p9 (nameL.map Value.string) 9) :: rowO 28 z.2) (fun z => [(w, fun _ => True)]) (fun z => qs.length - z.1) ((0, none)) (⟨Nat.zero_le _, Nat.zero_le _, rowOK_nil⟩) (l_start Zu (fun _ h => h)) ?_
 rintro ⟨k, R⟩ ⟨hk, hk6, hR⟩
 refine w_state ([(0, Value.slice A0 qs.length c0), (3, Value.slice (some ⟨p9, 0, none⟩) 10 10), (4, rowV R k), (5, Vi (k : Nat))]) ((Bk p9 (nameL.map Value.string) 9) :: rowO 28 R) ([(w, fun _ => True)]) ?_
 dsimp only at hk hk6 hR
 refine Zs (Zs (Zr ?_))
 refine Xm ?_
 refine Xm ?_
 refine Xv (v := Vi (qs.length : Nat)) rfl (v_len_slice u42 rfl) ?_
 refine Xb rfl (v_lss rfl rfl) fun b13 hb13 => ?_
 refine Xm ?_
 refine Xg ?_
 refine Xj rfl rfl rfl (fun hg0 => by subst hg0; (try simp only [Qy]); exact v_lss rfl rfl) fun b16 hb16 => ?_
 refine Xb rfl (v_and rfl rfl) fun b17 hb17 => ?_
 refine Ze (Zt ?_)
 refine w_cond rfl (fun hc17 => ?_) fun hc17 => ?_
 ·simp only [hb17, hb16, hb13, Qz, ne_eq] at hc17
  have hkl : k < qs.length := by omega
  have hk60 : k < 60 := by omega
  obtain ⟨b0, o0, hA0, _, hl4, hin4, hcq⟩ := q_at hq hkl
  obtain ⟨q0, q1, q2, q3, hqe⟩ := four hl4
  have hfq : feedQ k qs[k] = feedC k q0 q1 q2 q3 := by rw [hqe]; rfl
  rw [hqe] at hcq hin4
  have hq4 : in64 q0 ∧ in64 q1 ∧ in64 q2 ∧ in64 q3 := by simpa using hin4
  have hb9 : (q0 % 9).toNat < 9 := by omega
  have hb10 : (q2 % 10).toNat < 10 := by omega
  have hb4 : (q2.tdiv 8 % 4).toNat < 4 := by omega
  refine w_skip (Zt (Zs (w_block (Zs (Zr ?_)))))
  refine Xm ?_
  refine Xm ?_
  refine Xv rfl (v_indexAddr u42 sz103 (congrArg (fun A => some (Value.slice A qs.length c0)) hA0) rfl (hkl) rfl) ?_
  refine Xv rfl (v_loadN (vs := [Vi q0, Vi q1, Vi q2, Vi q3]) u103 rfl sz103 rfl (fun i hi => at_ro (.head _) trivial (hcq i hi))) ?_
  refine x_alloc rfl rfl rfl zr103 ?_
  intro p6
  refine x_store0 [] rfl rfl rfl rfl sz103 rfl rfl ?_
  refine Ze (Zt (Zs (Zr ?_)))
  refine x_buildSliceL (cs := kindL.map (Value.int .i64)) rfl rfl rfl u25 sz3 zr3 rfl rfl Zk ?_
  intro p24
  refine Xa ?_
  refine Ze (Zt (Zs ?_))
  refine rg_draw 29 [(true, 0), (true, 1), (true, 2), (true, 3), (true, 4), (true, 5), (true, 6), (true, 7), (true, 8), (true, 9), (true, 10), (true, 11), (true, 12), (true, 13), (true, 14), (true, 15), (true, 16), (true, 17), (true, 18), (true, 19), (true, 20), (true, 21), (true, 22), (true, 23), (true, 24), (true, 25), (true, 26), (true, 27), (false, 28)] Zk Zk ?_
  refine Xv rfl (v_indexArr (j := 3) (off' := 3) u103 sz3 rfl rfl Zo rfl) ?_
  refine Xl rfl u3 rfl (at_ownL (vs := [Vi q0, Vi q1, Vi q2, Vi q3]) (v := Vi q3) (.tail _ (.head _)) rfl) ?_
  refine x_callv (v := Vi (q3 % 3)) rfl rfl rfl Tryz.func54 Zk rfl (fun w1 hw1 => r_mod (q3) 3 w1 hq4.2.2.2 (by omega)) ?_
  refine Xv rfl (v_addi (c := (1 + q3 % 3)) rfl rfl (by omega) (by omega)) ?_
  refine Xm ?_
  refine Xv rfl (v_addi (c := (1 + (k : Int))) rfl rfl (by omega) (by omega)) ?_
  refine Xv rfl (v_indexArr (j := 3) (off' := 3) u103 sz3 rfl rfl Zo rfl) ?_
  refine Xl rfl u3 rfl (at_ownL (vs := [Vi q0, Vi q1, Vi q2, Vi q3]) (v := Vi q3) (.tail _ (.head _)) rfl) ?_
  refine Xv rfl (v_quoi (c := q3.tdiv 3) rfl rfl (by decide) rfl (tdiv_in hq4.2.2.2 (by decide))) ?_
  refine x_callv (v := Vi (q3.tdiv 3 % 4)) rfl rfl rfl Tryz.func54 Zk rfl (fun w1 hw1 => r_mod (q3.tdiv 3) 4 w1 (tdiv_in hq4.2.2.2 (by decide)) (by omega)) ?_
  refine Xv rfl (v_addi (c := (1 + (k : Int) + q3.tdiv 3 % 4)) rfl rfl (by omega) (by omega)) ?_
  refine Xm ?_
  refine Xv rfl (v_indexArr (j := 0) (off' := 0) u103 sz3 rfl rfl Zo rfl) ?_
  refine Xl rfl u3 rfl (at_ownL (vs := [Vi q0, Vi q1, Vi q2, Vi q3]) (v := Vi q0) (.tail _ (.head _)) rfl) ?_
  refine x_callv (v := Vi (((q0 % 9).toNat : Nat) : Int)) rfl rfl rfl Tryz.func54 Zk rfl (fun w1 hw1 => by rw [Int.toNat_of_nonneg (Int.emod_nonneg _ (by decide))]; exact r_mod (q0) 9 w1 hq4.1 (by omega)) ?_
  refine Xv rfl (v_indexAddr u25 sz3 rfl rfl (hb9) rfl) ?_
  refine Xl rfl u3 rfl (at_ownL (vs := kindL.map (Value.int .i64)) (v := Vi (kindL.getD (q0 % 9).toNat 0)) (.head _) (by rw [Nat.zero_add, Nat.mul_one, List.getElem?_map, List.getD_eq_getElem?_getD, List.getElem?_eq_getElem (show _ < kindL.length from hb9)]; rfl)) ?_
  refine Xv rfl (v_indexArr (j := 1) (off' := 1) u103 sz3 rfl rfl Zo rfl) ?_
  refine Xl rfl u3 rfl (at_ownL (vs := [Vi q0, Vi q1, Vi q2, Vi q3]) (v := Vi q1) (.tail _ (.head _)) rfl) ?_
  refine x_callv (v := Vi (q1 % 8)) rfl rfl rfl Tryz.func54 Zk rfl (fun w1 hw1 => r_mod (q1) 8 w1 hq4.2.1 (by omega)) ?_
  refine Xv rfl (v_addi (c := (1 + q1 % 8)) rfl rfl (by omega) (by omega)) ?_
  refine Xm ?_
  refine Xv rfl (v_indexArr (j := 2) (off' := 2) u103 sz3 rfl rfl Zo rfl) ?_
  refine Xl rfl u3 rfl (at_ownL (vs := [Vi q0, Vi q1, Vi q2, Vi q3]) (v := Vi q2) (.tail _ (.head _)) rfl) ?_
  refine x_callv (v := Vi (((q2 % 10).toNat : Nat) : Int)) rfl rfl rfl Tryz.func54 Zk rfl (fun w1 hw1 => by rw [Int.toNat_of_nonneg (Int.emod_nonneg _ (by decide))]; exact r_mod (q2) 10 w1 hq4.2.2.1 (by omega)) ?_
  refine Xv rfl (v_indexAddr u38 sz9 rfl rfl (hb10) rfl) ?_
  refine Xl rfl u9 rfl (at_ownL (vs := nameL.map Value.string) (v := Value.string (nameL.getD (q2 % 10).toNat ⟨#[]⟩)) (.tail _ (.tail _ (.head _))) (by rw [Nat.zero_add, Nat.mul_one, List.getElem?_map, List.getD_eq_getElem?_getD, List.getElem?_eq_getElem (show _ < nameL.length from hb10)]; rfl)) ?_
  refine Xv (v := Value.agg (feed0 k q0 q1 q2 q3).cells.toArray) rfl (v_buildL (cs := (feed0 k q0 q1 q2 q3).cells) (places := [(0, 1), (1, 1), (2, 1), (3, 1), (4, 1), (5, 1)]) u28 zr28 Zk rfl rfl) ?_
  refine x_alloc rfl rfl rfl zr28 ?_
  intro p8
  refine x_store0 [] rfl rfl rfl rfl sz28 rfl rfl ?_
  refine Ze (Zt ?_)
  refine w_seq_cut (σ := Unit) (fun z9 => True) (fun z9 => [(0, Value.slice A0 qs.length c0), (3, Value.slice (some ⟨p9, 0, none⟩) 10 10), (4, rowV R k), (5, Vi (k : Nat)), (6, Pt p6), (7, Value.slice (some ⟨p24, 0, none⟩) 9 9), (8, Pt p8)]) (fun z9 => (p8, Obj.cells (feedA k q0 q1 q2 q3).cells.toArray 28) :: (Bk p24 (kindL.map (Value.int .i64)) 3) :: (Bk p6 [Vi q0, Vi q1, Vi q2, Vi q3] 103) :: (Bk p9 (nameL.map Value.string) 9) :: rowO 28 R) (fun z9 => [(w, fun _ => True)]) ?_ ?_
  ·refine w_seq ?_
   refine Zr ?_
   refine Xf 2 rfl u28 rfl sz3 ?_
   refine Xl rfl u3 rfl (at_ownL (vs := (feed0 k q0 q1 q2 q3).cells) (.head _) rfl) ?_
   refine Xb rfl (v_eql rfl rfl) fun b55 hb55 => ?_
   refine Xm ?_
   refine Xi rfl rfl rfl (fun hg0 => by subst hg0; (try simp only [Qy]); exact v_fieldAddr (off' := 2) u28 rfl sz3 (by decide) rfl rfl) ?_
   refine Xi rfl rfl rfl (fun hg0 => by subst hg0; (try simp only [Qy]); exact v_load u3 rfl rfl (at_ownL (vs := (feed0 k q0 q1 q2 q3).cells) (.head _) rfl)) ?_
   refine Xj rfl rfl rfl (fun hg0 => by subst hg0; (try simp only [Qy]); exact v_eql rfl rfl) fun b59 hb59 => ?_
   refine Xb rfl (v_or rfl rfl) fun b60 hb60 => ?_
   refine Ze (Zt ?_)
   refine w_cond rfl (fun hc60 => ?_) fun hc60 => ?_
   ·simp only [hb60, hb59, hb55, Qz, ne_eq] at hc60
    refine Zs (Zr ?_)
    refine Xv rfl (v_indexArr (j := 2) (off' := 2) u103 sz3 rfl rfl Zo rfl) ?_
    refine Xl rfl u3 rfl (at_ownL (vs := [Vi q0, Vi q1, Vi q2, Vi q3]) (v := Vi q2) (.tail _ (.tail _ (.head _))) rfl) ?_
    refine x_callv (v := Vi (q2 % 8)) rfl rfl rfl Tryz.func54 Zk rfl (fun w1 hw1 => r_mod (q2) 8 w1 hq4.2.2.1 (by omega)) ?_
    refine Xv rfl (v_addi (c := (1 + q2 % 8)) rfl rfl (by omega) (by omega)) ?_
    refine Xf 4 rfl u28 rfl sz3 ?_
    refine x_store [] rfl rfl rfl rfl sz3 rfl (by show 4 + 1 ≤ 6; decide) ?_
    refine Ze (Zt (Zr ?_))
    refine Xf 5 rfl u28 rfl sz9 ?_
    refine x_store [] rfl rfl rfl rfl sz9 rfl (by show 5 + 1 ≤ 6; decide) ?_
    refine Ze ?_
    exact c_norm () trivial Zu (fun w1 h => h.to (by unfold feedA; rw [if_pos hc60]; rfl))
   simp only [hb60, hb59, hb55, Qz, ne_eq] at hc60
   refine w_skip ?_
   exact c_norm () trivial Zu (fun w1 h => h.to (by unfold feedA; rw [if_neg (fun h9 => h9.elim hc60.1 hc60.2)]; rfl))
  rintro _ _
  refine w_seq_cut (σ := Unit) (fun z9 => True) (fun z9 => [(0, Value.slice A0 qs.length c0), (3, Value.slice (some ⟨p9, 0, none⟩) 10 10), (4, rowV R k), (5, Vi (k : Nat)), (6, Pt p6), (7, Value.slice (some ⟨p24, 0, none⟩) 9 9), (8, Pt p8)]) (fun z9 => (p8, Obj.cells (feedC k q0 q1 q2 q3).cells.toArray 28) :: (Bk p24 (kindL.map (Value.int .i64)) 3) :: (Bk p6 [Vi q0, Vi q1, Vi q2, Vi q3] 103) :: (Bk p9 (nameL.map Value.string) 9) :: rowO 28 R) (fun z9 => [(w, fun _ => True)]) ?_ ?_
  ·refine w_seq ?_
   refine Zr ?_
   refine Xf 2 rfl u28 rfl sz3 ?_
   refine Xl rfl u3 rfl (at_ownL (vs := (feedA k q0 q1 q2 q3).cells) (.head _) rfl) ?_
   refine Xb rfl (v_eql rfl rfl) fun b69 hb69 => ?_
   refine Ze (Zt ?_)
   refine w_cond rfl (fun hc69 => ?_) fun hc69 => ?_
   ·simp only [hb69, Qz, ne_eq] at hc69
    refine Zr ?_
    refine x_buildSliceL (cs := splL.map Value.string) rfl rfl rfl u38 sz9 zr9 rfl rfl Zk ?_
    intro p70
    refine Xv rfl (v_indexArr (j := 2) (off' := 2) u103 sz3 rfl rfl Zo rfl) ?_
    refine Xl rfl u3 rfl (at_ownL (vs := [Vi q0, Vi q1, Vi q2, Vi q3]) (v := Vi q2) (.tail _ (.tail _ (.tail _ (.head _)))) rfl) ?_
    refine Xv rfl (v_quoi (c := q2.tdiv 8) rfl rfl (by decide) rfl (tdiv_in hq4.2.2.1 (by decide))) ?_
    refine x_callv (v := Vi (((q2.tdiv 8 % 4).toNat : Nat) : Int)) rfl rfl rfl Tryz.func54 Zk rfl (fun w1 hw1 => by rw [Int.toNat_of_nonneg (Int.emod_nonneg _ (by decide))]; exact r_mod (q2.tdiv 8) 4 w1 (tdiv_in hq4.2.2.1 (by decide)) (by omega)) ?_
    refine Xv rfl (v_indexAddr u38 sz9 rfl rfl (hb4) rfl) ?_
    refine Xl rfl u9 rfl (at_ownL (vs := splL.map Value.string) (v := Value.string (splL.getD (q2.tdiv 8 % 4).toNat ⟨#[]⟩)) (.head _) (by rw [Nat.zero_add, Nat.mul_one, List.getElem?_map, List.getD_eq_getElem?_getD, List.getElem?_eq_getElem (show _ < splL.length from hb4)]; rfl)) ?_
    refine Xf 5 rfl u28 rfl sz9 ?_
    refine x_store [(p70, _)] rfl rfl rfl rfl sz9 rfl (by show 5 + 1 ≤ 6; decide) ?_
    refine Ze ?_
    exact c_norm () trivial Zu (fun w1 h => (h.less (List.sublist_cons_self _ _) (fun _ h => h)).to (by unfold feedC; rw [if_pos hc69]; rfl))
   simp only [hb69, Qz, ne_eq] at hc69
   refine w_skip ?_
   exact c_norm () trivial Zu (fun w1 h => h.to (by unfold feedC; rw [if_neg hc69]))
  rintro _ _
  refine Zr ?_
  refine Xm ?_
  refine Xv rfl (v_load_blk u28 rfl rfl (.head _) (by exact sz28)) ?_
  refine x_buildSliceL (cs := (feedC k q0 q1 q2 q3).cells) rfl rfl rfl u24 sz28 zr28 rfl rfl rfl ?_
  intro p80
  refine x_append (e := 28) [(p80, Obj.cells (feedC k q0 q1 q2 q3).cells.toArray 28 (0, 0)), (p8, Obj.cells (feedC k q0 q1 q2 q3).cells.toArray 28), (Bk p24 (kindL.map (Value.int .i64)) 3), (Bk p6 [Vi q0, Vi q1, Vi q2, Vi q3] 103), (Bk p9 (nameL.map Value.string) 9)] (l2 := []) R (len := k) (xs := fdsC ((feedsF qs).take k)) rfl rfl rfl rfl (by simp) hR u24 ap28 rfl rfl (m := 1) (news := (feedC k q0 q1 q2 q3).cells) (fun i hi => at_ownL (vs := (feedC k q0 q1 q2 q3).cells) (.head _) (by rw [Nat.zero_add]; exact List.getElem?_eq_getElem hi)) rfl Zx (by omega) fun R' hR' => ?_
  refine Xa ?_
  refine Ze (b_norm (Zt (Zr ?_)))
  refine Xm ?_
  refine Xv rfl (v_addi rfl rfl rfl Zo) ?_
  refine Xa ?_
  refine Ze ?_
  exact l_norm (k + 1, R') ⟨hkl, hk60, by dsimp only; rw [feedsF_take hkl hk60, hfq, fdsC_app]; exact (by simpa [fdsC] using hR')⟩ (by simp only; omega) Zu (fun w1 h => (h.less ((((List.sublist_cons_self _ _).trans (List.sublist_cons_self _ _)).trans (List.sublist_cons_self _ _)).trans (List.sublist_cons_self _ _)) (fun _ h => h)).to (by simp))
 simp only [hb17, hb16, hb13, Qz, ne_eq] at hc17
 have hke : (feedsF qs).length = k := by rw [feedsF_len]; omega
 refine w_exit ?_
 refine t_exit ?_
 refine t_exit ?_
 refine b_hit ?_
 refine Zt (Zs (Zr ?_))
 refine Xm ?_
 refine Xa ?_
 refine Ze (Zt (w_ret ?_))
 exact ret1 rfl rfl (fun w' hm => ⟨R, by rw [hke], by rw [List.take_of_length_le (by omega)] at hR; rw [hke]; exact hR, hm.less (List.sublist_cons_self _ _) (fun _ h => h)⟩)
open Go.RowKit Go.PK
set_option maxHeartbeats 1000000 in
theorem c_acc {R : RowS} {l : List FD} (w : World) (hR : PK.rowR 28 6 FD.cells R l w) (hlen : l.length ≤ 100000) (hin : ∀ f ∈ l, inFD f) :
  Calls Tryz.prog 34 #[rowV R l.length] w fun e w' => ∃ U, e = .returned (rowV U (accF l).length) ∧ rowOK 6 U (accF l).length (fdsC (accF l)) ∧ Mem w' (rowO 28 U) [(w, fun _ => True)] := by
 refine enter (vs := [rowV R l.length]) Tryz.func34 rfl Tryz.ntmps34 rfl ?_
 refine Zs (Zr ?_)
 refine Xa ?_
 refine Ze (Zt (Zs (Zr ?_)))
 refine Xv rfl (v_buildL (places := [(0, 1)]) u48 zr48 Zk rfl rfl) ?_
 refine x_box rfl rfl rfl rfl ?_
 intro p7
 refine Xa ?_
 refine Ze (Zt (Zs (Zr ?_)))
 refine Xa ?_
 refine Ze (Zt (Zs (Zs (Zr ?_))))
 refine Xa ?_
 refine Ze (Zt (w_block ?_))
 refine w_loop (σ := Nat × RowS × RowS) (fun z => z.1 ≤ l.length ∧ rowOK 6 z.2.1 (takeAll (l.take z.1)).length (fdsC (takeAll (l.take z.1))) ∧ rowOK 6 z.2.2 (accF (l.take z.1)).length (fdsC (accF (l.take z.1)))) (fun z => [(0, rowV R l.length), (3, Pt p7), (4, rowV z.2.2 (accF (l.take z.1)).length), (5, Vi (z.1 : Nat))]) (fun z => (Bk p7 [rowV z.2.1 (takeAll (l.take z.1)).length] 48) :: (rowO 28 z.2.1 ++ rowO 28 z.2.2)) (fun z => [(w, fun _ => True)]) (fun z => l.length - z.1) ((0, none, none)) (⟨Nat.zero_le _, rowOK_nil, rowOK_nil⟩) (l_start Zu (fun _ h => h)) ?_
 rintro ⟨k, M, U⟩ ⟨hk, hM, hU⟩
 refine w_state ([(0, rowV R l.length), (3, Pt p7), (4, rowV U (accF (l.take k)).length), (5, Vi (k : Nat))]) ((Bk p7 [rowV M (takeAll (l.take k)).length] 48) :: (rowO 28 M ++ rowO 28 U)) ([(w, fun _ => True)]) ?_
 dsimp only at hk hM hU
 refine Zs (Zs (Zr ?_))
 refine Xm ?_
 refine Xm ?_
 refine Xv (v := Vi (l.length : Nat)) rfl (v_len_slice u24 rfl) ?_
 refine Xb rfl (v_lss rfl rfl) fun b11 hb11 => ?_
 refine Ze (Zt ?_)
 refine w_cond rfl (fun hc11 => ?_) fun hc11 => ?_
 ·simp only [hb11, Qz, ne_eq] at hc11
  have hkl : k < l.length := by omega
  obtain ⟨gF, csF, cpF, hRg, hcpF, hclF⟩ := hR.cells (c := FD.cells) (m := 6) (fun _ => rfl) (by decide) hkl
  have htk : l.take (k + 1) = l.take k ++ [l[k]] := List.take_succ_eq_append_getElem hkl
  have ht1 : takeAll (l.take (k + 1)) = (takeF (takeAll (l.take k)) l[k]).2 := by rw [htk, takeAll_snoc]
  refine w_skip (Zt (Zs (w_block (Zs (Zr ?_)))))
  refine Xm ?_
  refine Xm ?_
  refine Xm ?_
  refine Xv rfl (v_indexAddr u24 sz28 (congrArg (fun R => some (rowV R l.length)) hRg) rfl (hkl) rfl) ?_
  refine Xv rfl (v_loadN (vs := l[k].cells) u28 rfl sz28 rfl (fun i hi => at_ro (.head _) trivial (by rw [Nat.zero_add]; exact (hclF i hi).trans (List.getElem?_eq_getElem hi)))) ?_
  refine x_turn (τ := RowS) (fst := #[]) (cap := #[]) (v := Vi (takeF (takeAll (l.take k)) l[k]).1) (fun M' => rowOK 6 M' (takeF (takeAll (l.take k)) l[k]).2.length (fdsC (takeF (takeAll (l.take k)) l[k]).2)) (fun M' => (Bk p7 [rowV M' (takeF (takeAll (l.take k)) l[k]).2.length] 48) :: (rowO 28 M' ++ rowO 28 U)) rfl rfl rfl Tryz.func25 Zk rfl (fun w1 hw1 => by
   simp only [Array.empty_append, Array.append_empty]
   exact (r_Take (L := rowO 28 U) hM (takeAll_ok _) (hin _ (List.getElem_mem hkl)).2.2.2.2.2 hw1).mono fun e w2 ⟨h1, M', h2, h3⟩ => ⟨h1, M', h2, h3⟩) ?_
  intro M' hM'
  refine Xb rfl (v_eql rfl rfl) fun b20 hb20 => ?_
  refine Ze (Zt ?_)
  refine w_cond rfl (fun hc20 => ?_) fun hc20 => ?_
  ·simp only [hb20, Qz, ne_eq] at hc20
   have h0 : (takeF (takeAll (l.take k)) l[k]).1 = 0 := hc20
   have ha1 : accF (l.take (k + 1)) = (accF (l.take k)) ++ [l[k]] := by rw [htk, accF_snoc, if_pos h0]
   refine Zr ?_
   refine Xm ?_
   refine Xm ?_
   refine Xm ?_
   refine Xv rfl (v_indexAddr u24 sz28 (congrArg (fun R => some (rowV R l.length)) hRg) rfl (hkl) rfl) ?_
   refine Xv rfl (v_loadN (vs := l[k].cells) u28 rfl sz28 rfl (fun i hi => at_ro (.head _) trivial (by rw [Nat.zero_add]; exact (hclF i hi).trans (List.getElem?_eq_getElem hi)))) ?_
   refine x_buildSliceL (cs := l[k].cells) rfl rfl rfl u24 sz28 zr28 rfl rfl rfl ?_
   intro p26
   refine x_append (e := 28) ((p26, Obj.cells l[k].cells.toArray 28 (0, 0)) :: (Bk p7 [rowV M' (takeF (takeAll (l.take k)) l[k]).2.length] 48) :: rowO 28 M') (l2 := []) U (len := (accF (l.take k)).length) (xs := fdsC (accF (l.take k))) rfl rfl rfl rfl (by simp) hU u24 ap28 rfl rfl (m := 1) (news := l[k].cells) (fun i hi => at_ownL (vs := l[k].cells) (.head _) (by rw [Nat.zero_add]; exact List.getElem?_eq_getElem hi)) rfl (by have h9 := accF_len (l.take k); rw [List.length_take] at h9; simp only [maxLen]; omega) (by have h9 := accF_len (l.take k); rw [List.length_take] at h9; omega) fun U' hU' => ?_
   refine Xa ?_
   refine Ze (b_norm (Zt (Zr ?_)))
   refine Xm ?_
   refine Xv rfl (v_addi rfl rfl rfl Zo) ?_
   refine Xa ?_
   refine Ze ?_
   exact l_norm (k + 1, M', U') ⟨hkl, by dsimp only; rw [ht1]; exact hM', by dsimp only; rw [ha1, List.length_append, fdsC_app]; exact (by simpa [fdsC] using hU')⟩ (by simp only; omega) (by dsimp only; rw [ha1, List.length_append]; repeat (first | exact Sub.nil | refine Sub.cons rfl ?_)) (fun w1 h => (h.less (List.sublist_cons_self _ _) (fun _ h => h)).to (by dsimp only; rw [ht1]; simp))
  simp only [hb20, Qz, ne_eq] at hc20
  have h0 : ¬(takeF (takeAll (l.take k)) l[k]).1 = 0 := hc20
  have ha1 : accF (l.take (k + 1)) = (accF (l.take k)) := by rw [htk, accF_snoc, if_neg h0]
  refine w_skip (b_norm (Zt (Zr ?_)))
  refine Xm ?_
  refine Xv rfl (v_addi rfl rfl rfl Zo) ?_
  refine Xa ?_
  refine Ze ?_
  exact l_norm (k + 1, M', U) ⟨hkl, by dsimp only; rw [ht1]; exact hM', by dsimp only; rw [ha1]; exact hU⟩ (by simp only; omega) (by dsimp only; rw [ha1]; repeat (first | exact Sub.nil | refine Sub.cons rfl ?_)) (fun w1 h => h.to (by dsimp only; rw [ht1]))
 simp only [hb11, Qz, ne_eq] at hc11
 obtain rfl : k = l.length := by omega
 rw [List.take_of_length_le (Nat.le_refl _)] at hU
 refine w_exit ?_
 refine t_exit ?_
 refine t_exit ?_
 refine b_hit ?_
 refine Zt (Zs (Zr ?_))
 refine Xm ?_
 refine Xa ?_
 refine Ze (Zt (w_ret ?_))
 exact ret1 rfl rfl (fun w' hm => ⟨U, by rw [List.take_of_length_le (Nat.le_refl _)], hU, hm.less ((List.sublist_append_right _ _).cons _) (fun _ h => h)⟩)
open Go.RowKit Go.PK
attribute [local irreducible] WX
theorem eqSB (w : World) (a c : Sb) : (Op.equalIn 10000 67 (.agg (sbC a).toArray) (.agg (sbC c).toArray)).run Tryz.prog w = .ok (decide (a = c)) w := by
 have hf : (Tryz.prog.fieldsOf 67).toList = [⟨ "Code", 5, 0, false, "", "", 0⟩, ⟨ "Text", 9, 1, false, "", "", 8⟩] := by kernel_rfl
 rw [run_equalIn_struct w 9999 67 _ _ Zk Zk, hf]
 simp only [Op.eqFields, part, sbC]
 obtain ⟨a1, a2⟩ := a
 obtain ⟨b1, b2⟩ := c
 simp [run_isAgg u5, run_isAgg u9, aggT, run_equalIn_int w 9998 5 .u8 .u8 _ _ u5, run_equalIn_string w 9998 9 _ _ u9, toList_eq, Sb.mk.injEq]
 have hu : ((a1.toNat : Int) = (b1.toNat : Int)) ↔ a1 = b1 := by rw [Int.ofNat_inj]; exact UInt8.toNat_inj
 by_cases h1 : a1 = b1 <;> by_cases h2 : a2 = b2 <;> simp [h1, h2, hu]
theorem ex_in : ∀ f ∈ exF, inFD f := by
 intro f hf
 simp only [exF, List.mem_cons, List.not_mem_nil, or_false] at hf
 rcases hf with rfl | rfl | rfl | rfl | rfl | rfl <;> (unfold inFD in64; decide +kernel)
theorem ex7_in : inFD ex7 := by unfold inFD in64; decide +kernel
theorem hs8_id : ∀ h ∈ (stF exF).hs, h.id < 1000000000000000000 := by
 rw [stF_of ex_st]
 intro h hh
 simp only [hs8, List.mem_cons, List.not_mem_nil, or_false] at hh
 rcases hh with rfl | rfl | rfl <;> (dsimp only; omega)
theorem exG_ok : ∀ f ∈ exG, smFl f ∧ okFl f ∧ ∀ s ∈ f.subs, s.code = 48 → s.text.size ≤ 18 := by
 intro f hf
 simp only [exG, List.mem_cons, List.not_mem_nil, or_false] at hf
 rcases hf with rfl | rfl <;> refine ⟨⟨by decide, by decide⟩, ⟨⟨?_, ?_, ?_⟩, ?_⟩, by decide⟩ <;> (try unfold okS) <;> (first | decide +kernel | (intro s hs; rw [List.mem_singleton.1 hs]; decide +kernel))
set_option maxHeartbeats 400000 in
theorem c_sanity (w : World) (hL : LD w) :
  Calls Tryz.prog 14 #[] w fun e w' => e = .returned (.bool (true)) ∧ Later w w' := by
 refine enter (vs := []) Tryz.func14 rfl Tryz.ntmps14 rfl ?_
 refine Zs (Zr ?_)
 refine Xa ?_
 refine Ze (Zt (Zs (Zr ?_)))
 refine x_own (τ := RowS) (fun R => rowV R 6) (fun R => rowOK 6 R exF.length (fdsC exF)) (fun R => rowO 28 R) rfl rfl rfl Tryz.func38 Zk rfl (fun w1 hw1 => (c_ex w1).mono fun e w2 ⟨R, h1, h2, h3⟩ => ⟨R, h1, h3.base (by simp), h2, hw1.join h3⟩) fun R0 hR0 => ?_
 refine x_own (τ := FM8) (fun x => Pt x.pf) (fun x => FOK x exF) (fun x => FO x exF) rfl rfl rfl Tryz.func24 Zk rfl (fun w1 hw1 => by
  have h := c_taken (l := exF) w1 (hw1.rowR hR0 (fun q hq => hq)) (by show 6 ≤ 100000; omega) ex_in (hL.later (hw1.base (by simp)))
  rw [ex_all] at h
  exact h.mono fun e w2 ⟨x, h1, h2, h3⟩ => ⟨x, h1, h3.base (by simp), h2, hw1.join h3⟩) ?_
 intro x0 hx0
 refine x_mem (fun _ h => h.to (List.append_nil _).symm) ?_
 refine Xa ?_
 refine Ze (Zt (Zs (Zr ?_)))
 refine Xm ?_
 refine x_turn (τ := FM8) (fst := #[]) (cap := #[]) (v := .tuple #[Vi 1, .bool true]) (fun y => FOK y exF ∧ y.pf = x0.pf) (fun y => FO y exF ++ []) rfl rfl rfl Tryz.func19 Zk rfl (fun w1 hw1 => by
  simp only [Array.empty_append, Array.append_empty]
  have h := k_Find (t := ⟨#[67, 76, 69, 77, 69, 78, 83, 44, 32, 83, 97, 109, 117, 101, 108]⟩) (L := []) hx0 (by decide +kernel) (.head _) hL (hw1.to (by simp))
  rw [ex_find'] at h
  exact h) ?_
 rintro x1 ⟨hx1, px1⟩
 refine Xm ?_
 refine Xe ?_
 refine Xb rfl (v_extract rfl rfl) fun b18 hb18 => ?_
 obtain rfl : b18 = true := hb18
 refine Xa ?_
 refine Xa ?_
 refine Ze (Zt (Zs (Zr ?_)))
 refine Xm ?_
 refine x_turn (τ := FM8) (fst := #[]) (cap := #[]) (v := .tuple #[Vi 2, .bool true]) (fun y => FOK y exF ∧ y.pf = x0.pf) (fun y => FO y exF ++ []) rfl rfl rfl Tryz.func18 Zk rfl (fun w1 hw1 => by
  simp only [Array.empty_append, Array.append_empty]
  have h := k_Resolve (h := 1) (t := ⟨#[84, 111, 109, 32, 83, 97, 119, 121, 101, 114]⟩) (L := []) hx1 (by unfold in64; omega) (by decide +kernel) (.head _) hL (hw1.to (by simp))
  rw [ex_r1'] at h
  rw [px1] at h
  exact h) ?_
 rintro x2 ⟨hx2, px2⟩
 refine Xm ?_
 refine Xe ?_
 refine Xb rfl (v_extract rfl rfl) fun b23 hb23 => ?_
 obtain rfl : b23 = true := hb23
 refine Xa ?_
 refine Xa ?_
 refine Ze (Zt (Zs (Zr ?_)))
 refine Xm ?_
 refine x_turn (τ := FM8) (fst := #[]) (cap := #[]) (v := .tuple #[Vi 3, .bool true]) (fun y => FOK y exF ∧ y.pf = x0.pf) (fun y => FO y exF ++ []) rfl rfl rfl Tryz.func18 Zk rfl (fun w1 hw1 => by
  simp only [Array.empty_append, Array.append_empty]
  have h := k_Resolve (h := 1) (t := ⟨#[79, 108, 100, 32, 115, 111, 110, 103, 115]⟩) (L := []) hx2 (by unfold in64; omega) (by decide +kernel) (.head _) hL (hw1.to (by simp))
  rw [ex_r2'] at h
  rw [px2] at h
  exact h) ?_
 rintro x3 ⟨hx3, px3⟩
 refine Xm ?_
 refine Xe ?_
 refine Xb rfl (v_extract rfl rfl) fun b28 hb28 => ?_
 obtain rfl : b28 = true := hb28
 refine Xa ?_
 refine Xa ?_
 refine Ze (Zt (Zs (Zr ?_)))
 refine Xm ?_
 refine Xv (v := Value.agg ((sbC ⟨97, ⟨#[116, 119, 97, 105, 110, 32, 109]⟩⟩)).toArray) rfl (v_buildL (cs := (sbC ⟨97, ⟨#[116, 119, 97, 105, 110, 32, 109]⟩⟩)) (places := [(0, 1), (1, 1)]) u67 zr67 Zk rfl rfl) ?_
 refine x_buildSliceL (cs := (sbC ⟨97, ⟨#[116, 119, 97, 105, 110, 32, 109]⟩⟩)) rfl rfl rfl u60 sz67 zr67 rfl rfl rfl ?_
 intro p31
 refine Xv (v := Value.agg ([Value.string ⟨#[55, 48, 48]⟩, .string ⟨#[49, 32]⟩, .string ⟨#[]⟩, Value.slice (some ⟨p31, 0, none⟩) 1 1]).toArray) rfl (v_buildL (cs := [Value.string ⟨#[55, 48, 48]⟩, .string ⟨#[49, 32]⟩, .string ⟨#[]⟩, Value.slice (some ⟨p31, 0, none⟩) 1 1]) (places := [(0, 1), (1, 1), (2, 1), (3, 1)]) u62 zr62 Zk rfl rfl) ?_
 refine Xv (v := Value.agg ((sbC ⟨97, ⟨#[84, 111, 109, 32, 83, 97, 119, 121, 101, 114]⟩⟩)).toArray) rfl (v_buildL (cs := (sbC ⟨97, ⟨#[84, 111, 109, 32, 83, 97, 119, 121, 101, 114]⟩⟩)) (places := [(0, 1), (1, 1)]) u67 zr67 Zk rfl rfl) ?_
 refine x_buildSliceL (cs := (sbC ⟨97, ⟨#[84, 111, 109, 32, 83, 97, 119, 121, 101, 114]⟩⟩)) rfl rfl rfl u60 sz67 zr67 rfl rfl rfl ?_
 intro p34
 refine Xv (v := Value.agg ([Value.string ⟨#[50, 52, 53]⟩, .string ⟨#[49, 48]⟩, .string ⟨#[]⟩, Value.slice (some ⟨p34, 0, none⟩) 1 1]).toArray) rfl (v_buildL (cs := [Value.string ⟨#[50, 52, 53]⟩, .string ⟨#[49, 48]⟩, .string ⟨#[]⟩, Value.slice (some ⟨p34, 0, none⟩) 1 1]) (places := [(0, 1), (1, 1), (2, 1), (3, 1)]) u62 zr62 Zk rfl rfl) ?_
 refine x_buildSliceL (cs := ([Value.string ⟨#[55, 48, 48]⟩, .string ⟨#[49, 32]⟩, .string ⟨#[]⟩, Value.slice (some ⟨p31, 0, none⟩) 1 1]) ++ [Value.string ⟨#[50, 52, 53]⟩, .string ⟨#[49, 48]⟩, .string ⟨#[]⟩, Value.slice (some ⟨p34, 0, none⟩) 1 1]) rfl rfl rfl u49 sz62 zr62 rfl rfl rfl ?_
 intro p36
 refine Xv (v := Value.agg ([Value.int .u8 0, Value.int .u8 0, Value.slice (some ⟨p36, 0, none⟩) 2 2]).toArray) rfl (v_buildL (cs := [Value.int .u8 0, Value.int .u8 0, Value.slice (some ⟨p36, 0, none⟩) 2 2]) (places := [(0, 1), (1, 1), (2, 1)]) u51 zr51 Zk rfl rfl) ?_
 refine x_fix (FO x3 exF ++ []) ((((List.sublist_cons_self _ _).trans (List.sublist_cons_self _ _)).trans (List.sublist_cons_self _ _))) fun w5 hw5 => ?_
 have hno5 : ∀ p, p ∈ [(Bk p36 (([Value.string ⟨#[55, 48, 48]⟩, .string ⟨#[49, 32]⟩, .string ⟨#[]⟩, Value.slice (some ⟨p31, 0, none⟩) 1 1]) ++ [Value.string ⟨#[50, 52, 53]⟩, .string ⟨#[49, 48]⟩, .string ⟨#[]⟩, Value.slice (some ⟨p34, 0, none⟩) 1 1]) 62), (Bk p34 (sbC ⟨97, ⟨#[84, 111, 109, 32, 83, 97, 119, 121, 101, 114]⟩⟩) 67), (Bk p31 (sbC ⟨97, ⟨#[116, 119, 97, 105, 110, 32, 109]⟩⟩) 67)] → notOwn (FO x3 exF ++ []) p.1 := fun p hp => hw5.notIn (l1 := [(Bk p36 (([Value.string ⟨#[55, 48, 48]⟩, .string ⟨#[49, 32]⟩, .string ⟨#[]⟩, Value.slice (some ⟨p31, 0, none⟩) 1 1]) ++ [Value.string ⟨#[50, 52, 53]⟩, .string ⟨#[49, 48]⟩, .string ⟨#[]⟩, Value.slice (some ⟨p34, 0, none⟩) 1 1]) 62), (Bk p34 (sbC ⟨97, ⟨#[84, 111, 109, 32, 83, 97, 119, 121, 101, 114]⟩⟩) 67), (Bk p31 (sbC ⟨97, ⟨#[116, 119, 97, 105, 110, 32, 109]⟩⟩) 67)]) (.refl _) hp
 have hg5 : sliceRd tyFl (notOwn (FO x3 exF ++ [])) w5 (Value.slice (some ⟨p36, 0, none⟩) 2 2) exG := by
  have h := fe_rd (TF := 62) (T := 67) (es := [(⟨exG[0], Value.slice (some ⟨p31, 0, none⟩) 1 1, some (p31, (sbC ⟨97, ⟨#[116, 119, 97, 105, 110, 32, 109]⟩⟩), 1)⟩ : FE), (⟨exG[1], Value.slice (some ⟨p34, 0, none⟩) 1 1, some (p34, (sbC ⟨97, ⟨#[84, 111, 109, 32, 83, 97, 119, 121, 101, 114]⟩⟩), 1)⟩ : FE)]) (C := some (p36, ([Value.string ⟨#[55, 48, 48]⟩, .string ⟨#[49, 32]⟩, .string ⟨#[]⟩, Value.slice (some ⟨p31, 0, none⟩) 1 1]) ++ [Value.string ⟨#[50, 52, 53]⟩, .string ⟨#[49, 48]⟩, .string ⟨#[]⟩, Value.slice (some ⟨p34, 0, none⟩) 1 1], 2)) (D := fun _ => True) (D' := notOwn (FO x3 exF ++ [])) hw5 (.head _) ⟨rfl, (by show 2 ≤ 2; decide), (by show 2 ≤ maxLen; simp only [maxLen]; omega), rfl, rfl⟩ (fun e he => by
    rcases List.mem_cons.1 he with rfl | he
    ·exact ⟨.inr ⟨rfl, rfl, (by show 1 ≤ 1; decide), (by show 1 ≤ maxLen; simp only [maxLen]; omega), rfl, rfl⟩, (exG_ok _ (.head _)).2.1⟩
    rw [List.mem_singleton.1 he]
    exact ⟨.inr ⟨rfl, rfl, (by show 1 ≤ 1; decide), (by show 1 ≤ maxLen; simp only [maxLen]; omega), rfl, rfl⟩, (exG_ok _ (.tail _ (.head _))).2.1⟩) (fun p hp => by rw [List.mem_singleton.1 hp]; exact .head _)
   (fun e he p hp => by
    rcases List.mem_cons.1 he with rfl | he
    ·rw [List.mem_singleton.1 hp]; exact .tail _ (.tail _ (.head _))
    rw [List.mem_singleton.1 he] at hp; rw [List.mem_singleton.1 hp]; exact .tail _ (.head _))
   (fun k hk hlt p hp he => by have h9 := hw5.apart p (.tail _ (.tail _ (.tail _ hp))) _ (.head _) trivial; simp only at h9; omega)
   (fun e he p hp => by
    rcases List.mem_cons.1 he with rfl | he
    ·exact hno5 p (by rw [List.mem_singleton.1 hp]; exact .tail _ (.tail _ (.head _)))
    rw [List.mem_singleton.1 he] at hp; exact hno5 p (by rw [List.mem_singleton.1 hp]; exact .tail _ (.head _)))
   (fun p hp => hno5 p (by rw [List.mem_singleton.1 hp]; exact .head _))
  exact h
 refine x_turn_n (τ := FM8) (fun y v wA wB => (FOK y exF ∧ y.pf = x0.pf) ∧ ∃ v', v = .agg #[.int .u8 0, .int .u8 0, v'] ∧ sliceRd tyFl (notOwn (FO y exF ++ [])) wB v' exG2) (fun y => FO y exF ++ []) rfl rfl Tryz.func28 Zk rfl (fun w1 hw1 => by
  have h := k_Rewrite (L := []) (kd := 0) (lv := 0) hx3 hs8_id (.head _) hg5 (fun h => by cases h) (by show 2 ≤ 100000; omega) exG_ok (.tail _ (.head _)) hL hw1
  rw [px3] at h
  refine h.mono fun e w2 ⟨y, v', h1, ⟨h2, h3⟩, h4, h5⟩ => ⟨_, h1, y, ⟨⟨h2, h3⟩, v', rfl, ?_⟩, h5⟩
  rw [stF_of ex_st, ex_rew] at h4
  exact h4) ?_
 rintro v38 x4 w6 w7 hw6 ⟨⟨hx4, px4⟩, v', rfl, hrd⟩ hw7
 obtain ⟨A2, c2, rfl, hl2c, hmx2, _⟩ := id hrd
 obtain ⟨b2, o2, vs2, rfl, hD2, hc2, hs2, _⟩ := fl8_at hrd (k := 0) (by decide)
 obtain ⟨A3, c3, rfl, hl3c, hmx3, _⟩ := id hs2
 obtain ⟨b3, o3, rfl, hD3, hc3⟩ := sb8_at hs2 (k := 0) (by decide)
 obtain ⟨b4, o4, e4, _, hc4⟩ := sb8_at hs2 (k := 1) (by decide)
 injection e4 with e4
 injection e4 with e5 e6
 subst e5 e6
 refine x_alloc rfl rfl rfl zr51 ?_
 intro p8
 refine x_store0 [] rfl rfl rfl rfl sz51 rfl rfl ?_
 refine Ze (Zt (Zs (Zr ?_)))
 refine Xm ?_
 refine Xv (v := Value.agg (ex7).cells.toArray) rfl (v_buildL (cs := (ex7).cells) (places := [(0, 1), (1, 1), (2, 1), (3, 1), (4, 1), (5, 1)]) u28 zr28 Zk rfl rfl) ?_
 refine x_mem (own' := FO x4 exF ++ [(Bk p8 [Value.int .u8 0, Value.int .u8 0, Value.slice (some ⟨b2, o2, none⟩) exG2.length c2] 51)]) (fun _ h => (h.perm (List.perm_append_comm (l₁ := [(Bk p8 [Value.int .u8 0, Value.int .u8 0, Value.slice (some ⟨b2, o2, none⟩) exG2.length c2] 51)]) (l₂ := FO x4 exF ++ []))).to (by rw [List.append_nil])) ?_
 refine x_turn (τ := FM8) (fst := #[]) (cap := #[]) (v := Vi 0) (fun y => FOK y (exF ++ [ex7]) ∧ y.pf = x0.pf) (fun y => FO y (exF ++ [ex7]) ++ [(Bk p8 [Value.int .u8 0, Value.int .u8 0, Value.slice (some ⟨b2, o2, none⟩) exG2.length c2] 51)]) rfl rfl rfl Tryz.func17 Zk rfl (fun w1 hw1 => by
  simp only [Array.empty_append, Array.append_empty]
  have h := k_Take (f := ex7) (L := [(Bk p8 [Value.int .u8 0, Value.int .u8 0, Value.slice (some ⟨b2, o2, none⟩) exG2.length c2] 51)]) hx4 ex7_in (.tail _ (.tail _ (.head _))) hL hw1
  rw [ex_take7, px4] at h
  exact h) ?_
 rintro x5 ⟨hx5, px5⟩
 refine Xa ?_
 refine Ze (Zt (Zs (Zr ?_)))
 refine Xm ?_
 refine x_turnV (τ := RowS × FM8) (fst := #[]) (cap := #[]) (fun z => rowV z.1 1) (fun z => rowOK 6 z.1 [ex7].length (fdsC [ex7]) ∧ FOK z.2 (exF ++ [ex7])) (fun z => FO z.2 (exF ++ [ex7]) ++ (rowO 28 z.1 ++ [(Bk p8 [Value.int .u8 0, Value.int .u8 0, Value.slice (some ⟨b2, o2, none⟩) exG2.length c2] 51)])) rfl rfl rfl Tryz.func20 Zk rfl (fun w1 hw1 => by
  simp only [Array.empty_append, Array.append_empty]
  have h := k_Refused (L := [(Bk p8 [Value.int .u8 0, Value.int .u8 0, Value.slice (some ⟨b2, o2, none⟩) exG2.length c2] 51)]) hx5 (.tail _ (.tail _ (.head _))) hL hw1
  rw [show (stF (exF ++ [ex7])).ref = [ex7] from by rw [stF_of ex_st7], px5] at h
  exact h.mono fun e w2 ⟨R, h1, h2, y, ⟨h3, _⟩, h4⟩ => ⟨(R, y), h1, ⟨h2, h3⟩, h4⟩) ?_
 rintro ⟨R7, x6⟩ ⟨hR7, hx6⟩
 obtain ⟨g7, cs7, c7, hRg7, hcp7, hc7⟩ := fd_cell (fs := [ex7]) hR7 (k := 0) (by decide)
 refine Xa ?_
 refine Ze (Zt (Zs (Zs (Zr ?_))))
 refine Xf 2 rfl u51 rfl sz49 ?_
 refine Xl rfl u49 rfl (at_ownL (vs := [Value.int .u8 0, Value.int .u8 0, Value.slice (some ⟨b2, o2, none⟩) exG2.length c2]) (List.mem_append_right _ (List.mem_append_right _ (.head _))) rfl) ?_
 refine Xv (v := Vi (exG2.length : Nat)) rfl (v_len_slice u49 rfl) ?_
 refine Xb rfl (v_neq rfl rfl) fun b47 hb47 => ?_
 obtain rfl : b47 = false := hb47.trans (by decide)
 refine Xm ?_
 refine x_valg rfl rfl rfl rfl rfl (v_fieldAddr (off' := 2) u51 rfl sz49 (by decide) rfl rfl) ?_
 refine x_valg rfl rfl rfl rfl rfl (v_load u49 rfl rfl (at_ownL (vs := [Value.int .u8 0, Value.int .u8 0, Value.slice (some ⟨b2, o2, none⟩) exG2.length c2]) (List.mem_append_right _ (List.mem_append_right _ (.head _))) rfl)) ?_
 refine x_valg rfl rfl rfl rfl rfl (v_indexAddr (j := 0) u49 sz62 rfl rfl (by decide) rfl) ?_
 refine x_valg rfl rfl rfl rfl rfl (v_fieldAddr u62 rfl sz60 (by decide) rfl rfl) ?_
 refine x_valg rfl rfl rfl rfl rfl (v_load u60 rfl rfl (at_ro (.head _) hD2 (v := Value.slice (some ⟨b3, o3, none⟩) exG2[0].subs.length c3) (hc2 3 (by show 3 < 4; decide)))) ?_
 refine x_valg (v := Vi (exG2[0].subs.length : Nat)) rfl rfl rfl rfl rfl (v_len_slice u60 rfl) ?_
 refine x_boolg rfl rfl rfl rfl rfl (v_neq rfl rfl) fun b55 hb55 => ?_
 obtain rfl : b55 = false := hb55.trans (by decide)
 refine Xb rfl (v_or rfl rfl) fun b56 hb56 => ?_
 obtain rfl : b56 = false := hb56
 refine Xm ?_
 refine x_valg rfl rfl rfl rfl rfl (v_move rfl) ?_
 refine x_valg (v := Vi ((1 : Nat) : Int)) rfl rfl rfl rfl rfl (v_len_slice u24 rfl) ?_
 refine x_boolg rfl rfl rfl rfl rfl (v_neq rfl rfl) fun b60 hb60 => ?_
 obtain rfl : b60 = false := hb60.trans (by decide)
 refine Xb rfl (v_or rfl rfl) fun b61 hb61 => ?_
 obtain rfl : b61 = false := hb61
 refine Ze (Zt ?_)
 refine w_cond rfl (fun hc61 => ?_) fun hc61 => ?_
 ·cases hc61
 skip
 refine w_skip (Zt (Zs (Zr ?_)))
 refine Xf 2 rfl u51 rfl sz49 ?_
 refine Xl rfl u49 rfl (at_ownL (vs := [Value.int .u8 0, Value.int .u8 0, Value.slice (some ⟨b2, o2, none⟩) exG2.length c2]) (List.mem_append_right _ (List.mem_append_right _ (.head _))) rfl) ?_
 refine Xv rfl (v_indexAddr (j := 0) u49 sz62 rfl rfl (by decide) rfl) ?_
 refine Xf _ rfl u62 rfl sz60 ?_
 refine Xl rfl u60 rfl (at_ro (.head _) hD2 (v := Value.slice (some ⟨b3, o3, none⟩) exG2[0].subs.length c3) (hc2 3 (by show 3 < 4; decide))) ?_
 refine Xa ?_
 refine Ze (Zt (Zs (Zr ?_)))
 refine Xm ?_
 refine Xm ?_
 refine x_valg rfl rfl rfl rfl rfl (v_move rfl) ?_
 refine Xb rfl (v_and rfl rfl) fun b70 hb70 => ?_
 obtain rfl : b70 = true := hb70
 refine Xm ?_
 refine x_valg rfl rfl rfl rfl rfl (v_move rfl) ?_
 refine Xb rfl (v_and rfl rfl) fun b73 hb73 => ?_
 obtain rfl : b73 = true := hb73
 refine Xm ?_
 refine x_valg rfl rfl rfl rfl rfl (v_move rfl) ?_
 refine x_boolg rfl rfl rfl rfl rfl (v_eql rfl rfl) fun b76 hb76 => ?_
 obtain rfl : b76 = true := hb76.trans (by decide)
 refine Xb rfl (v_and rfl rfl) fun b77 hb77 => ?_
 obtain rfl : b77 = true := hb77
 refine Xm ?_
 refine x_valg rfl rfl rfl rfl rfl (v_move rfl) ?_
 refine x_boolg rfl rfl rfl rfl rfl (v_eql rfl rfl) fun b80 hb80 => ?_
 obtain rfl : b80 = true := hb80.trans (by decide)
 refine Xb rfl (v_and rfl rfl) fun b81 hb81 => ?_
 obtain rfl : b81 = true := hb81
 refine Xm ?_
 refine x_valg rfl rfl rfl rfl rfl (v_move rfl) ?_
 refine x_boolg rfl rfl rfl rfl rfl (v_eql rfl rfl) fun b84 hb84 => ?_
 obtain rfl : b84 = true := hb84.trans (by decide)
 refine Xb rfl (v_and rfl rfl) fun b85 hb85 => ?_
 obtain rfl : b85 = true := hb85
 refine Xm ?_
 refine x_valg rfl rfl rfl rfl rfl (v_move rfl) ?_
 refine x_boolg rfl rfl rfl rfl rfl (v_eql rfl rfl) fun b88 hb88 => ?_
 obtain rfl : b88 = true := hb88.trans (by decide)
 refine Xb rfl (v_and rfl rfl) fun b89 hb89 => ?_
 obtain rfl : b89 = true := hb89
 refine Xm ?_
 refine x_valg rfl rfl rfl rfl rfl (v_move rfl) ?_
 refine x_valg rfl rfl rfl rfl rfl (v_indexAddr (j := 0) u24 sz28 (congrArg (fun R => some (rowV R 1)) hRg7) rfl (by decide) rfl) ?_
 refine x_valg rfl rfl rfl rfl rfl (v_fieldAddr u28 rfl sz3 (by decide) rfl rfl) ?_
 refine x_valg rfl rfl rfl rfl rfl (v_load u3 rfl rfl (at_ownL (vs := cs7) (v := Vi 7) (List.mem_append_right _ (List.mem_append_left _ (by rw [hRg7]; exact .head _))) (hc7 1 (by decide)))) ?_
 refine x_boolg rfl rfl rfl rfl rfl (v_eql rfl rfl) fun b95 hb95 => ?_
 obtain rfl : b95 = true := hb95.trans (by decide)
 refine Xb rfl (v_and rfl rfl) fun b96 hb96 => ?_
 obtain rfl : b96 = true := hb96
 refine Xm ?_
 refine x_valg rfl rfl rfl rfl rfl (v_move rfl) ?_
 refine x_valg rfl rfl rfl rfl rfl (v_indexAddr (j := 0) u60 sz67 rfl rfl (by decide) rfl) ?_
 refine x_valg rfl rfl rfl rfl rfl (v_loadN (vs := sbC (exG2[0].subs[0])) u67 rfl sz67 rfl (fun i hi => at_ro (.head _) hD3 (hc3 i hi))) ?_
 refine x_valg (v := Value.agg (sbC ⟨97, T8b⟩).toArray) rfl rfl rfl rfl rfl (v_buildL (cs := sbC ⟨97, T8b⟩) (places := [(0, 1), (1, 1)]) u67 zr67 Zk rfl rfl) ?_
 refine x_boolg rfl rfl rfl rfl rfl (v_eqA Zk rfl rfl (fun w1 => eqSB w1 (exG2[0].subs[0]) ⟨97, T8b⟩)) fun b102 hb102 => ?_
 obtain rfl : b102 = true := hb102.trans (by decide)
 refine Xb rfl (v_and rfl rfl) fun b103 hb103 => ?_
 obtain rfl : b103 = true := hb103
 refine Xm ?_
 refine x_valg rfl rfl rfl rfl rfl (v_move rfl) ?_
 refine x_valg rfl rfl rfl rfl rfl (v_indexAddr (j := 1) u60 sz67 rfl rfl (by decide) rfl) ?_
 refine x_valg rfl rfl rfl rfl rfl (v_loadN (vs := sbC (exG2[0].subs[1])) u67 rfl sz67 rfl (fun i hi => at_ro (.head _) hD3 (hc4 i hi))) ?_
 refine x_valg (v := Value.agg (sbC ⟨48, ⟨#[50]⟩⟩).toArray) rfl rfl rfl rfl rfl (v_buildL (cs := sbC ⟨48, ⟨#[50]⟩⟩) (places := [(0, 1), (1, 1)]) u67 zr67 Zk rfl rfl) ?_
 refine x_boolg rfl rfl rfl rfl rfl (v_eqA Zk rfl rfl (fun w1 => eqSB w1 (exG2[0].subs[1]) ⟨48, ⟨#[50]⟩⟩)) fun b109 hb109 => ?_
 obtain rfl : b109 = true := hb109.trans (by decide)
 refine Xb rfl (v_and rfl rfl) fun b110 hb110 => ?_
 obtain rfl : b110 = true := hb110
 refine Xa ?_
 refine Ze (Zt (w_ret ?_))
 exact ret1 rfl rfl (fun w' hm => ⟨rfl, hm.base (by simp)⟩)
end Go.Proofs.YtnflcekodobdlaaGreatDoor

namespace Go.Proofs.YtnflcekodobdlaaGreatDoor
open Go.RowKit Go.PK
attribute [local irreducible] WX
theorem tmod4 {m : Int} (h : 0 ≤ m ∧ m ≤ 255) : 0 ≤ m.tmod 4 ∧ m.tmod 4 ≤ 3 := by
 rw [Int.tmod_eq_emod_of_nonneg h.1]; omega
theorem many_in {k : Nat} (h : k ≤ 5001) : inFD (manyX k) := by
 have h2 : aB.size = 1 := rfl
 unfold inFD in64 manyX
 dsimp only
 omega
theorem two_in {k : Nat} (h : k ≤ 5001) : inFD ⟨2, (k : Nat) + 1, 1, 1, 0, aB⟩ := by
 have h2 : aB.size = 1 := rfl
 unfold inFD in64
 dsimp only
 omega
set_option maxHeartbeats 4000000 in
theorem lawMany (m : Int) (w : World) (hm : 0 ≤ m ∧ m ≤ 255) (hL : LD w) :
  Calls Tryz.prog 6 #[.int .u8 m] w fun e w' => e = .returned (.bool (true)) ∧ Later w w' := by
 refine enter (vs := [.int .u8 m]) Tryz.func6 rfl Tryz.ntmps6 rfl ?_
 refine Zs (Zr ?_)
 refine Xa ?_
 refine Ze (Zt (Zs (Zr ?_)))
 refine x_callb rfl rfl rfl Tryz.func14 Zk rfl (fun w1 hw1 => c_sanity w1 (hL.later (hw1.base (by simp)))) fun b7 hb7 => ?_
 obtain rfl : b7 = true := hb7
 refine Xa ?_
 refine Ze (Zt (Zs (Zr ?_)))
 refine x_own (τ := FM8) (fun x => Pt x.pf) (fun x => FOK x []) (fun x => FO x []) rfl rfl rfl Tryz.func16 Zk rfl (fun w1 hw1 => (k_New w1).mono fun e w2 ⟨x, h1, h2, h3, h4⟩ => ⟨x, h1, h4.base (by simp), h2, hw1.join h4⟩) fun x0 hx0 => ?_
 refine Xa ?_
 refine Ze (Zt (Zs (Zs (Zr ?_))))
 refine Xa ?_
 refine Ze (Zt (w_block ?_))
 refine w_loop (σ := Nat × FM8) (fun z => z.1 ≤ 5000 ∧ FOK z.2 (manyL z.1)) (fun z => [(0, Value.int .u8 m), (3, Value.bool true), (4, Pt z.2.pf), (5, Vi (z.1 + 1 : Nat))]) (fun z => FO z.2 (manyL z.1) ++ []) (fun z => [(w, fun _ => True)]) (fun z => 5000 - z.1) ((0, x0)) (⟨Nat.zero_le _, hx0⟩) (l_start Zu (fun w1 h => h.to (by simp; rfl))) ?_
 rintro ⟨k, x⟩ ⟨hk, hx⟩
 refine w_state ([(0, Value.int .u8 m), (3, Value.bool true), (4, Pt x.pf), (5, Vi (k + 1 : Nat))]) (FO x (manyL k) ++ []) ([(w, fun _ => True)]) ?_
 dsimp only at hk hx
 refine Zs (Zs (Zr ?_))
 refine Xm ?_
 refine Xb rfl (v_leq rfl rfl) fun b10 hb10 => ?_
 refine Ze (Zt ?_)
 refine w_cond rfl (fun hc10 => ?_) fun hc10 => ?_
 ·simp only [hb10, Qz, ne_eq] at hc10
  have hkl : k < 5000 := by omega
  refine w_skip (Zt (Zs (w_block (Zs (Zr ?_)))))
  refine Xm ?_
  refine Xm ?_
  refine Xm ?_
  refine Xv (v := Value.agg ((manyX (k + 1))).cells.toArray) rfl (v_buildL (cs := ((manyX (k + 1))).cells) (places := [(0, 1), (1, 1), (2, 1), (3, 1), (4, 1), (5, 1)]) u28 zr28 Zk rfl rfl) ?_
  refine x_turn (τ := FM8) (fst := #[]) (cap := #[]) (v := Vi 0) (fun y => FOK y (manyL (k + 1)) ∧ y.pf = x.pf) (fun y => FO y (manyL (k + 1)) ++ []) rfl rfl rfl Tryz.func17 Zk rfl (fun w1 hw1 => by
   simp only [Array.empty_append, Array.append_empty]
   have h := k_Take (f := (manyX (k + 1))) (L := []) hx (many_in (by omega)) (.head _) hL hw1
   rw [many_step hkl] at h
   exact h) ?_
  rintro x9 ⟨hx9, px9⟩
  refine Xb rfl (v_neq rfl rfl) fun b18 hb18 => ?_
  refine Ze (Zt ?_)
  refine w_cond rfl (fun hc18 => ?_) fun hc18 => ?_
  ·exact absurd (hb18.symm.trans hc18) (by decide)
  simp only [hb18, Qz, ne_eq] at hc18
  refine w_skip (b_norm (Zt (Zr ?_)))
  refine Xm ?_
  refine Xv rfl (v_addi rfl rfl rfl Zo) ?_
  refine Xa ?_
  refine Ze ?_
  exact l_norm (k + 1, x9) ⟨hkl, hx9⟩ (by simp only; omega) (by dsimp only; rw [px9]; repeat (first | exact Sub.nil | refine Sub.cons rfl ?_)) (fun w1 h => h)
 simp only [hb10, Qz, ne_eq] at hc10
 obtain rfl : k = 5000 := by omega
 refine w_exit ?_
 refine t_exit ?_
 refine t_exit ?_
 refine b_hit ?_
 refine Zt (Zs (Zs (Zr ?_)))
 refine Xa ?_
 refine Ze (Zt (w_block ?_))
 refine w_loop (σ := Nat × FM8) (fun z => z.1 ≤ 4 ∧ FOK z.2 (manyL 5000)) (fun z => [(0, Value.int .u8 m), (3, Value.bool true), (4, Pt z.2.pf), (6, Vi (z.1 : Nat))]) (fun z => FO z.2 (manyL 5000) ++ []) (fun z => [(w, fun _ => True)]) (fun z => 4 - z.1) ((0, x)) (⟨Nat.zero_le _, hx⟩) (l_start Zu (fun _ h => h)) ?_
 rintro ⟨j, x⟩ ⟨hj, hx⟩
 refine w_state ([(0, Value.int .u8 m), (3, Value.bool true), (4, Pt x.pf), (6, Vi (j : Nat))]) (FO x (manyL 5000) ++ []) ([(w, fun _ => True)]) ?_
 dsimp only at hj hx
 refine Zs (Zs (Zr ?_))
 refine Xm ?_
 refine Xm ?_
 refine Xv rfl (v_rem rfl rfl (by decide)) ?_
 refine Xv (v := Vi (m.tmod 4)) rfl (v_conv64 u5 u3 rfl (by have h9 := tmod4 hm; omega)) ?_
 refine Xb rfl (v_lss rfl rfl) fun b23 hb23 => ?_
 refine Ze (Zt ?_)
 refine w_cond rfl (fun hc23 => ?_) fun hc23 => ?_
 ·simp only [hb23, Qz, ne_eq] at hc23
  have hm4 := tmod4 hm
  refine w_skip (Zt (Zs (w_block (Zs (Zr ?_)))))
  refine Xm ?_
  refine Xm ?_
  refine Xv rfl (v_addi rfl rfl rfl Zo) ?_
  refine Xv (v := Value.agg ((⟨2, (j : Nat) + 1, 1, 1, 0, aB⟩ : FD)).cells.toArray) rfl (v_buildL (cs := ((⟨2, (j : Nat) + 1, 1, 1, 0, aB⟩ : FD)).cells) (places := [(0, 1), (1, 1), (2, 1), (3, 1), (4, 1), (5, 1)]) u28 zr28 Zk rfl rfl) ?_
  refine x_turn (τ := FM8) (fst := #[]) (cap := #[]) (v := Vi 2) (fun y => FOK y (manyL 5000) ∧ y.pf = x.pf) (fun y => FO y (manyL 5000) ++ []) rfl rfl rfl Tryz.func17 Zk rfl (fun w1 hw1 => by
   simp only [Array.empty_append, Array.append_empty]
   have h := k_Take (f := (⟨2, (j : Nat) + 1, 1, 1, 0, aB⟩ : FD)) (L := []) hx (two_in (by omega)) (.head _) hL hw1
   rw [many_full many_two rfl] at h
   exact h) ?_
  rintro x9 ⟨hx9, px9⟩
  refine Xb rfl (v_neq rfl rfl) fun b31 hb31 => ?_
  refine Ze (Zt ?_)
  refine w_cond rfl (fun hc31 => ?_) fun hc31 => ?_
  ·exact absurd (hb31.symm.trans hc31) (by decide)
  simp only [hb31, Qz, ne_eq] at hc31
  refine w_skip (b_norm (Zt (Zr ?_)))
  refine Xm ?_
  refine Xv rfl (v_addi rfl rfl rfl Zo) ?_
  refine Xa ?_
  refine Ze ?_
  exact l_norm (j + 1, x9) ⟨by omega, hx9⟩ (by simp only; omega) (by dsimp only; rw [px9]; repeat (first | exact Sub.nil | refine Sub.cons rfl ?_)) (fun w1 h => h)
 skip
 refine w_exit ?_
 refine t_exit ?_
 refine t_exit ?_
 refine b_hit ?_
 refine Zt (Zs (Zr ?_))
 refine Xm ?_
 refine Xm ?_
 refine x_valg rfl rfl rfl rfl rfl (v_move rfl) ?_
 refine x_valg (v := Value.agg ((⟨1, 1, 1, 1, 0, aB⟩ : FD)).cells.toArray) rfl rfl rfl rfl rfl (v_buildL (cs := ((⟨1, 1, 1, 1, 0, aB⟩ : FD)).cells) (places := [(0, 1), (1, 1), (2, 1), (3, 1), (4, 1), (5, 1)]) u28 zr28 Zk rfl rfl) ?_
 refine x_turng (τ := FM8) (v := Vi 22) (fun y => FOK y (manyL 5000) ∧ y.pf = x.pf) (fun y => FO y (manyL 5000) ++ []) rfl rfl rfl rfl Tryz.func17 Zk rfl (fun w1 hw1 => by
  have h := k_Take (f := (⟨1, 1, 1, 1, 0, aB⟩ : FD)) (L := []) hx (by unfold inFD in64; decide +kernel) (.head _) hL hw1
  rw [many_twice] at h
  exact h) ?_
 rintro xa ⟨hxa, pxa⟩
 refine x_boolg rfl rfl rfl rfl rfl (v_eql rfl rfl) fun b37 hb37 => ?_
 obtain rfl : b37 = true := hb37.trans (by decide)
 refine Xb rfl (v_and rfl rfl) fun b38 hb38 => ?_
 obtain rfl : b38 = true := hb38
 refine Xm ?_
 refine x_valg rfl rfl rfl rfl rfl (v_move rfl) ?_
 refine x_valg (v := Value.agg ((⟨1, 1, 1, 2, 0, aB⟩ : FD)).cells.toArray) rfl rfl rfl rfl rfl (v_buildL (cs := ((⟨1, 1, 1, 2, 0, aB⟩ : FD)).cells) (places := [(0, 1), (1, 1), (2, 1), (3, 1), (4, 1), (5, 1)]) u28 zr28 Zk rfl rfl) ?_
 refine x_turng (τ := FM8) (v := Vi 30) (fun y => FOK y (manyL 5000) ∧ y.pf = x.pf) (fun y => FO y (manyL 5000) ++ []) rfl rfl rfl rfl Tryz.func17 Zk rfl (fun w1 hw1 => by
  have h := k_Take (f := (⟨1, 1, 1, 2, 0, aB⟩ : FD)) (L := []) hxa (by unfold inFD in64; decide +kernel) (.head _) hL hw1
  rw [many_old, pxa] at h
  exact h) ?_
 rintro xb ⟨hxb, pxb⟩
 refine x_boolg rfl rfl rfl rfl rfl (v_eql rfl rfl) fun b43 hb43 => ?_
 obtain rfl : b43 = true := hb43.trans (by decide)
 refine Xb rfl (v_and rfl rfl) fun b44 hb44 => ?_
 obtain rfl : b44 = true := hb44
 refine Xm ?_
 refine x_valg rfl rfl rfl rfl rfl (v_move rfl) ?_
 refine x_valg (v := Value.agg ((⟨0, 0, 0, 0, 0, ⟨#[]⟩⟩ : FD)).cells.toArray) rfl rfl rfl rfl rfl (v_buildL (cs := ((⟨0, 0, 0, 0, 0, ⟨#[]⟩⟩ : FD)).cells) (places := [(0, 1), (1, 1), (2, 1), (3, 1), (4, 1), (5, 1)]) u28 zr28 Zk rfl rfl) ?_
 refine x_turng (τ := FM8) (v := Vi 1) (fun y => FOK y (manyL 5000) ∧ y.pf = x.pf) (fun y => FO y (manyL 5000) ++ []) rfl rfl rfl rfl Tryz.func17 Zk rfl (fun w1 hw1 => by
  have h := k_Take (f := (⟨0, 0, 0, 0, 0, ⟨#[]⟩⟩ : FD)) (L := []) hxb (by unfold inFD in64; decide +kernel) (.head _) hL hw1
  rw [many_zero, pxb] at h
  exact h) ?_
 rintro xc ⟨hxc, pxc⟩
 refine x_boolg rfl rfl rfl rfl rfl (v_eql rfl rfl) fun b49 hb49 => ?_
 obtain rfl : b49 = true := hb49.trans (by decide)
 refine Xb rfl (v_and rfl rfl) fun b50 hb50 => ?_
 obtain rfl : b50 = true := hb50
 refine Xa ?_
 refine Ze (Zt (w_ret ?_))
 exact ret1 rfl rfl (fun w' hm => ⟨rfl, hm.base (by simp)⟩)
end Go.Proofs.YtnflcekodobdlaaGreatDoor

namespace Go.Proofs.YtnflcekodobdlaaGreatDoor
open Go.RowKit Go.PK
def laidL : List (String × DataW Unit) := [("math/bits.deBruijn32tab", Rows.laid_math_bits_deBruijn32tab), ("math/bits.deBruijn64tab", Rows.laid_math_bits_deBruijn64tab), ("internal/strconv.uint64pow10", Rows.laid_internal_strconv_uint64pow10), ("strconv.ErrRange", Rows.laid_strconv_ErrRange), ("strconv.ErrSyntax", Rows.laid_strconv_ErrSyntax)]
theorem noHandle {W : World} (h : laidMetH Tryz.prog laidL W) : laidMet Tryz.prog laidL W := by
 have h1 := (laidMetH_iff.1 h).1
 rwa [show (laidL.filter fun x => x.2.handleName?.isNone) = laidL from by kernel_rfl] at h1
theorem laid_tab {W : World} (h : laidMet Tryz.prog laidL W) : Lib.TabIs Tryz.prog W "internal/strconv.uint64pow10" .u64 Lib.pow10Tab := by
 have h1 := h.filter fun x => x.1 == "internal/strconv.uint64pow10"
 have e : (laidL.filter fun x => x.1 == "internal/strconv.uint64pow10") = [("internal/strconv.uint64pow10", Lib.tabData .u64 Lib.pow10Tab)] := by kernel_rfl
 rw [e] at h1
 exact Lib.tabIs_of_head (g := 2) (t := 204) (e := 155) (n := 20) Zk Zk Zk Zk Zk Zk h1
theorem star : "*" ++ "errors.errorString" = "*errors.errorString" := by decide
theorem row104 (u : TypeId) (h : Tryz.prog.typeName? 3 u = some "*errors.errorString") : u = 212 :=
 typeName_ptr_named (nm := "errors.errorString") (by rw [star]; kernel_rfl) Zk (by decide) u (by rw [star]; exact h)
theorem laid_syn {W : World} (h : laidMet Tryz.prog laidL W) : ∃ tp p, W.var? Tryz.prog "strconv.ErrSyntax" = some #[.iface tp p] := by
 have h1 := h.filter fun x => x.1 == "strconv.ErrSyntax"
 have e : (laidL.filter fun x => x.1 == "strconv.ErrSyntax") = [("strconv.ErrSyntax", .iface "*errors.errorString" (.ptr (.agg [.lit (.string [105, 110, 118, 97, 108, 105, 100, 32, 115, 121, 110, 116, 97, 120])])))] := by kernel_rfl
 rw [e] at h1
 obtain ⟨a0, s0, hv0, _⟩ := laid_sentinel (g := 0) (ti := 135) (tp := 212) (te := 214) (ts := 9) h1 Zk Zk u135 row104 u212 u214 rfl rfl u9 Zk Zk
 exact ⟨_, _, hv0⟩
theorem laid_rng {W : World} (h : laidMet Tryz.prog laidL W) : ∃ tp p, W.var? Tryz.prog "strconv.ErrRange" = some #[.iface tp p] := by
 have h1 := h.filter fun x => x.1 == "strconv.ErrRange"
 have e : (laidL.filter fun x => x.1 == "strconv.ErrRange") = [("strconv.ErrRange", .iface "*errors.errorString" (.ptr (.agg [.lit (.string [118, 97, 108, 117, 101, 32, 111, 117, 116, 32, 111, 102, 32, 114, 97, 110, 103, 101])])))] := by kernel_rfl
 rw [e] at h1
 obtain ⟨a0, s0, hv0, _⟩ := laid_sentinel (g := 1) (ti := 135) (tp := 212) (te := 214) (ts := 9) h1 Zk Zk u135 row104 u212 u214 rfl rfl u9 Zk Zk
 exact ⟨_, _, hv0⟩
theorem ld_of {W : World} (h : laidMetH Tryz.prog laidL W) (hS : W.ShapedOpen Tryz.prog) : LD W := ⟨laid_tab (noHandle h), Tryz.laysM145.s1_3 W hS, laid_syn (noHandle h), laid_rng (noHandle h)⟩
theorem laid_met (os : Os) (args : Array Value) : laidMet Tryz.prog laidL ((World.laidAll Tryz.prog os laidL).forCall (fun _ _ => 0) ⟨#[], args, []⟩).memory :=
 laidMet_laidAll args Zk Zk
theorem bulk_one {H : Type} (d : DataW H) : 1 ≤ Rows.uptoBulk d := by
 cases d with
 | lit l => cases l <;> simp [Rows.uptoBulk]
 | nil => simp [Rows.uptoBulk]
 | ptr d => simp [Rows.uptoBulk]
 | slice elems spare => simp [Rows.uptoBulk]
 | agg parts => simp [Rows.uptoBulk]
 | iface t d => simp [Rows.uptoBulk]
 | map entries => simp [Rows.uptoBulk]
 | held h => simp [Rows.uptoBulk]
def meas (H : Type) : Meas H := ⟨Rows.uptoBulk, Rows.uptoBulkAll, fun _ => by simp [Rows.uptoBulk], fun _ _ => by simp [Rows.uptoBulk], fun _ => by simp [Rows.uptoBulk], fun _ _ => by simp [Rows.uptoBulkAll], bulk_one⟩
open Go.RowKit Go.PK
attribute [local irreducible] WX
def askL : List ByteArray := [⟨#[116, 119, 97, 105, 110, 32, 77, 65, 82, 75]⟩, ⟨#[67, 108, 101, 109, 101, 110, 115]⟩, ⟨#[71, 101, 111, 114, 103, 101, 32, 69, 108, 105, 111, 116]⟩, ⟨#[101, 108, 105, 111, 116, 32, 103, 101, 111, 114, 103, 101]⟩, ⟨#[101, 118, 97, 110, 115]⟩, ⟨#[115, 111, 110, 103, 115]⟩, ⟨#[77, 117, 115, 105, 99]⟩, ⟨#[90, 111, 108, 97, 33]⟩, ⟨#[116, 119, 97, 105, 110]⟩, ⟨#[111, 102]⟩, ⟨#[]⟩, ⟨#[45]⟩]
theorem askL_sz : ∀ t ∈ askL, t.size ≤ 12 := by decide
theorem titN_sz (n : Int) : (titN n).size ≤ 20 := by
 have h1 : ∀ t ∈ titL, t.size ≤ 20 := by decide
 unfold titN
 rw [List.getD_eq_getElem?_getD]
 cases h : titL[(n % 5).toNat]? with
 | none => exact Nat.zero_le _
 | some x => exact h1 x (List.mem_of_getElem? h)
theorem FO_head (x : FM8) (fs : List FD) : (Bk x.pf (fmC x fs.length) 78) ∈ FO x fs := .head _
theorem FO_row (x : FM8) (fs : List FD) : ∀ q ∈ rowO 28 x.F, q ∈ FO x fs := fun q hq => .tail _ (List.mem_append_left _ hq)
def MO8 (pm : Nat) (M : RowS) (n : Nat) : List (Nat × Obj) := (Bk pm [rowV M n] 48) :: rowO 28 M
set_option maxHeartbeats 4000000 in
theorem c_agrees {x0 : FM8} {fs : List FD} {pm pf : Nat} {M : RowS} {ro : List Snap} {w w0 : World} (hx0 : FOK x0 fs) (px0 : x0.pf = pf) (hM : rowOK 6 M fs.length (fdsC fs)) (hsz2 : ∀ q ∈ fs, q.txt.size ≤ 2000000) (hro : (w0, fun _ => True) ∈ ro) (hL : LD w0) (hm : Mem w (FO x0 fs ++ MO8 pm M fs.length) ro) :
  Calls Tryz.prog 37 #[Pt pf, Pt pm] w fun e w' => e = .returned (.bool true) ∧ ∃ x' : FM8, FOK x' fs ∧ Mem w' (FO x' fs ++ MO8 pm M fs.length) ro := by
 have hok := hx0.ok
 have hsz : ∀ q ∈ fs, q.txt.size ≤ 4000000 := fun q hq => (hx0.sz q hq).2.2.2.2.2
 have hrl : (stF fs).ref.length ≤ 100000 := by have h9 := (fs_bnd' hok).ref; omega
 refine enter_in hm (vs := [Pt pf, Pt pm]) Tryz.func37 rfl Tryz.ntmps37 rfl ?_
 refine Zs (Zr ?_)
 refine Xa ?_
 refine Ze (Zt (Zs (Zs (Zr ?_))))
 refine Xm ?_
 refine Xb rfl (v_pnil (o := some ⟨pf, 0, none⟩) u29 rfl rfl) fun b22 hb22 => ?_
 obtain rfl : b22 = false := hb22
 refine Xm ?_
 refine x_valg rfl rfl rfl rfl rfl (v_move rfl) ?_
 refine x_callvg (v := Value.string (encF8 fs)) rfl rfl rfl rfl rfl Tryz.func35 Zk rfl (fun w1 hw1 => k_Encode w1 (R := x0.F) (by rw [← px0]; exact at_ownL (vs := fmC x0 fs.length) (List.mem_append_left _ (FO_head x0 fs)) rfl w1 hw1) hx0.row (fun q hq => hw1.own_at q (List.mem_append_left _ (FO_row x0 fs q hq))) hok.len hsz2 (fun q hq => (hx0.sz q hq).imp_right fun h => ⟨h.1, h.2.1, h.2.2.1, h.2.2.2.1⟩)) ?_
 refine x_valg rfl rfl rfl rfl rfl (v_move rfl) ?_
 refine x_callvg (v := Value.string (encF8 fs)) rfl rfl rfl rfl rfl Tryz.func73 Zk rfl (fun w1 hw1 => r_Encode w1 (R := M) (at_ownL (vs := [rowV M fs.length]) (List.mem_append_right _ (.head _)) rfl w1 hw1) hM (fun q hq => hw1.own_at q (List.mem_append_right _ (.tail _ hq))) hok.len hsz2 (fun q hq => (hx0.sz q hq).imp_right fun h => ⟨h.1, h.2.1, h.2.2.1, h.2.2.2.1⟩)) ?_
 refine x_boolg rfl rfl rfl rfl rfl (v_sneq rfl rfl) fun b28 hb28 => ?_
 obtain rfl : b28 = false := hb28.trans (by simp)
 refine Xb rfl (v_or rfl rfl) fun b29 hb29 => ?_
 obtain rfl : b29 = false := hb29
 refine Xm ?_
 refine x_valg rfl rfl rfl rfl rfl (v_move rfl) ?_
 refine x_turnVg (τ := RowS × FM8) (fun z => rowV z.1 (stF fs).ref.length) (fun z => rowOK 6 z.1 (stF fs).ref.length (fdsC (stF fs).ref) ∧ FOK z.2 fs ∧ z.2.pf = pf) (fun z => FO z.2 fs ++ (rowO 28 z.1 ++ MO8 pm M fs.length)) rfl rfl rfl rfl Tryz.func20 Zk rfl (fun w1 hw1 => by
  have h := k_Refused (L := MO8 pm M fs.length) hx0 hro hL hw1
  rw [px0] at h
  exact h.mono fun e w2 ⟨R, h1, h2, y, ⟨h3, h4⟩, h5⟩ => ⟨(R, y), h1, ⟨h2, h3, h4⟩, h5⟩) ?_
 rintro ⟨R1, x1⟩ ⟨hR1, hx1, px1⟩
 refine x_valg rfl rfl rfl rfl rfl (v_move rfl) ?_
 refine x_turnVg (τ := RowS) (fun R => rowV R (stF fs).ref.length) (fun R => rowOK 6 R (stF fs).ref.length (fdsC (stF fs).ref)) (fun R => rowO 28 R ++ (FO x1 fs ++ (rowO 28 R1 ++ MO8 pm M fs.length))) rfl rfl rfl rfl Tryz.func74 Zk rfl (fun w1 hw1 => (r_Refused (pm := pm) w1 (at_ownL (vs := [rowV M fs.length]) (List.mem_append_right _ (List.mem_append_right _ (.head _))) rfl w1 hw1) hM (fun q hq => hw1.own_at q (List.mem_append_right _ (List.mem_append_right _ (.tail _ hq)))) hok hsz).mono fun e w2 ⟨R, h1, h2, h3⟩ => ⟨R, h1, h2, Mem.join2 hw1 h3⟩) fun R2 hR2 => ?_
 refine x_callbg rfl rfl rfl rfl rfl Tryz.func36 Zk rfl (fun w1 hw1 => r_SameF w1 (hw1.rowR hR1 (fun q hq => List.mem_append_right _ (List.mem_append_right _ (List.mem_append_left _ hq)))) (hw1.rowR hR2 (fun q hq => List.mem_append_left _ hq)) hrl hrl) fun b35 hb35 => ?_
 obtain rfl : b35 = true := hb35.trans (decide_eq_true rfl)
 refine x_boolg rfl rfl rfl rfl rfl (v_not rfl) fun b36 hb36 => ?_
 obtain rfl : b36 = false := hb36
 refine Xb rfl (v_or rfl rfl) fun b37 hb37 => ?_
 obtain rfl : b37 = false := hb37
 refine Ze (Zt ?_)
 refine w_cond rfl (fun hc37 => ?_) fun hc37 => ?_
 ·cases hc37
 skip
 refine x_memW (own' := FO x1 fs ++ MO8 pm M fs.length) (fun w1 h => h.less ((((List.Sublist.refl _).append (List.sublist_append_right _ _))).trans (List.sublist_append_right _ _)) (fun _ h => h)) ?_
 refine w_skip (Zt (Zs (Zr ?_)))
 refine x_buildSliceL (cs := askL.map Value.string) rfl rfl rfl u38 sz9 zr9 rfl rfl Zk ?_
 intro p38
 refine x_mem (own' := FO x1 fs ++ ((Bk p38 (askL.map Value.string) 9) :: MO8 pm M fs.length)) (fun w1 h => h.perm (List.perm_middle (l₁ := FO x1 fs)).symm) ?_
 refine Xa ?_
 refine Ze (Zt (Zs (Zs (Zr ?_))))
 refine Xa ?_
 refine Ze (Zt (w_block ?_))
 refine w_loop (σ := Nat × FM8) (fun z => z.1 ≤ 12 ∧ FOK z.2 fs ∧ z.2.pf = pf) (fun z => [(0, Pt pf), (1, Pt pm), (5, Value.slice (some ⟨p38, 0, none⟩) 12 12), (6, Vi (z.1 : Nat))]) (fun z => FO z.2 fs ++ ((Bk p38 (askL.map Value.string) 9) :: MO8 pm M fs.length)) (fun z => ro) (fun z => 12 - z.1) ((0, x1)) (⟨Nat.zero_le _, hx1, px1⟩) (l_start Zu (fun w1 h => h.to rfl)) ?_
 rintro ⟨k, x⟩ ⟨hk, hx, px⟩
 refine w_state ([(0, Pt pf), (1, Pt pm), (5, Value.slice (some ⟨p38, 0, none⟩) 12 12), (6, Vi (k : Nat))]) (FO x fs ++ ((Bk p38 (askL.map Value.string) 9) :: MO8 pm M fs.length)) (ro) ?_
 dsimp only at hk hx px
 refine Zs (Zs (Zr ?_))
 refine Xm ?_
 refine Xm ?_
 refine Xv (v := Vi (12 : Nat)) rfl (v_len_slice u38 rfl) ?_
 refine Xb rfl (v_lss rfl rfl) fun b42 hb42 => ?_
 refine Ze (Zt ?_)
 refine w_cond rfl (fun hc42 => ?_) fun hc42 => ?_
 ·simp only [hb42, Qz, ne_eq] at hc42
  have hkl : k < askL.length := by show k < 12; omega
  have hkz : askL[k].size ≤ 4000000 := Nat.le_trans (askL_sz _ (List.getElem_mem hkl)) (by omega)
  refine w_skip (Zt (Zs (w_block (Zs (Zr ?_)))))
  refine Xm ?_
  refine Xm ?_
  refine Xm ?_
  refine Xv rfl (v_indexAddr u38 sz9 rfl rfl (show k < 12 from hkl) rfl) ?_
  refine Xl rfl u9 rfl (at_ownL (vs := askL.map Value.string) (v := Value.string askL[k]) (List.mem_append_right _ (.head _)) (by rw [Nat.zero_add, Nat.mul_one, List.getElem?_map, List.getElem?_eq_getElem hkl]; rfl)) ?_
  refine x_turn (τ := FM8) (fst := #[]) (cap := #[]) (v := .tuple #[Vi (findF (stF fs).hs askL[k]).1, .bool (findF (stF fs).hs askL[k]).2]) (fun y => FOK y (fs) ∧ y.pf = pf) (fun y => FO y (fs) ++ ((Bk p38 (askL.map Value.string) 9) :: MO8 pm M fs.length)) rfl rfl rfl Tryz.func19 Zk rfl (fun w1 hw1 => by
   simp only [Array.empty_append, Array.append_empty]
   have h := k_Find (t := askL[k]) (L := ((Bk p38 (askL.map Value.string) 9) :: MO8 pm M fs.length)) hx hkz hro hL hw1
   rw [px] at h
   exact h) ?_
  rintro xa ⟨hxa, pxa⟩
  refine Xm ?_
  refine Xe ?_
  refine Xb rfl (v_extract rfl rfl) fun b53 hb53 => ?_
  refine Xa ?_
  refine Xa ?_
  refine Ze (Zt (Zs (Zr ?_)))
  refine Xm ?_
  refine Xm ?_
  refine Xm ?_
  refine Xv rfl (v_indexAddr u38 sz9 rfl rfl (show k < 12 from hkl) rfl) ?_
  refine Xl rfl u9 rfl (at_ownL (vs := askL.map Value.string) (v := Value.string askL[k]) (List.mem_append_right _ (.head _)) (by rw [Nat.zero_add, Nat.mul_one, List.getElem?_map, List.getElem?_eq_getElem hkl]; rfl)) ?_
  refine x_callv rfl rfl rfl Tryz.func75 Zk rfl (fun w1 hw1 => r_Find w1 (at_ownL (vs := [rowV M fs.length]) (List.mem_append_right _ (.tail _ (.head _))) rfl w1 hw1) hM (fun q hq => hw1.own_at q (List.mem_append_right _ (.tail _ (.tail _ hq)))) hok hsz askL[k] hkz) ?_
  refine Xm ?_
  refine Xe ?_
  refine Xb rfl (v_extract rfl rfl) fun b62 hb62 => ?_
  refine Xa ?_
  refine Xa ?_
  refine Ze (Zt (Zs (Zr ?_)))
  refine Xm ?_
  refine Xm ?_
  refine Xb rfl (v_neq rfl rfl) fun b65 hb65 => ?_
  obtain rfl : b65 = false := hb65.trans (by simp)
  refine Xm ?_
  refine x_valg rfl rfl rfl rfl rfl (v_move rfl) ?_
  refine x_valg rfl rfl rfl rfl rfl (v_move rfl) ?_
  refine x_boolg rfl rfl rfl rfl rfl (v_bneq rfl rfl u4) fun b69 hb69 => ?_
  obtain rfl : b69 = false := (by rw [hb69, hb53, hb62]; simp)
  refine Xb rfl (v_or rfl rfl) fun b70 hb70 => ?_
  obtain rfl : b70 = false := hb70
  refine Ze (Zt ?_)
  refine w_cond rfl (fun hc70 => ?_) fun hc70 => ?_
  ·cases hc70
  skip
  refine w_skip (b_norm (Zt (Zr ?_)))
  refine Xm ?_
  refine Xv rfl (v_addi rfl rfl rfl Zo) ?_
  refine Xa ?_
  refine Ze ?_
  exact l_norm (k + 1, xa) ⟨hkl, hxa, pxa⟩ (by simp only; omega) Zu (fun _ h => h)
 skip
 refine w_exit ?_
 refine t_exit ?_
 refine t_exit ?_
 refine b_hit ?_
 refine Zt (Zs (Zs (Zr ?_)))
 refine Xa ?_
 refine Ze (Zt (w_block ?_))
 refine w_loop (σ := Nat × FM8) (fun z => z.1 ≤ 10 ∧ FOK z.2 fs ∧ z.2.pf = pf) (fun z => [(0, Pt pf), (1, Pt pm), (11, Vi (z.1 : Nat))]) (fun z => FO z.2 fs ++ ((Bk p38 (askL.map Value.string) 9) :: MO8 pm M fs.length)) (fun z => ro) (fun z => 10 - z.1) ((0, x)) (⟨Nat.zero_le _, hx, px⟩) (l_start Zu (fun _ h => h)) ?_
 rintro ⟨j, x⟩ ⟨hj, hx, px⟩
 refine w_state ([(0, Pt pf), (1, Pt pm), (11, Vi (j : Nat))]) (FO x fs ++ ((Bk p38 (askL.map Value.string) 9) :: MO8 pm M fs.length)) (ro) ?_
 dsimp only at hj hx px
 refine Zs (Zs (Zr ?_))
 refine Xm ?_
 refine Xb rfl (v_lss rfl rfl) fun b72 hb72 => ?_
 refine Ze (Zt ?_)
 refine w_cond rfl (fun hc72 => ?_) fun hc72 => ?_
 ·simp only [hb72, Qz, ne_eq] at hc72
  have hjl : j < 10 := by omega
  refine w_skip (Zt (Zs (w_block (Zs (Zr ?_)))))
  refine Xm ?_
  refine Xm ?_
  refine x_turn (τ := FM8) (fst := #[]) (cap := #[]) (v := .tuple #[.string (nameF (stF fs).hs (j : Nat)).1, .bool (nameF (stF fs).hs (j : Nat)).2]) (fun y => FOK y (fs) ∧ y.pf = pf) (fun y => FO y (fs) ++ ((Bk p38 (askL.map Value.string) 9) :: MO8 pm M fs.length)) rfl rfl rfl Tryz.func31 Zk rfl (fun w1 hw1 => by
   simp only [Array.empty_append, Array.append_empty]
   have h := k_Name (h := (j : Nat)) (L := ((Bk p38 (askL.map Value.string) 9) :: MO8 pm M fs.length)) hx (by unfold in64; omega) hro hL hw1
   rw [px] at h
   exact h) ?_
  rintro xb ⟨hxb, pxb⟩
  refine Xm ?_
  refine Xe ?_
  refine Xb rfl (v_extract rfl rfl) fun b80 hb80 => ?_
  refine Xa ?_
  refine Xa ?_
  refine Ze (Zt (Zs (Zr ?_)))
  refine Xm ?_
  refine Xm ?_
  refine x_callv rfl rfl rfl Tryz.func76 Zk rfl (fun w1 hw1 => r_Name w1 (at_ownL (vs := [rowV M fs.length]) (List.mem_append_right _ (.tail _ (.head _))) rfl w1 hw1) hM (fun q hq => hw1.own_at q (List.mem_append_right _ (.tail _ (.tail _ hq)))) hok hsz (j : Nat)) ?_
  refine Xm ?_
  refine Xe ?_
  refine Xb rfl (v_extract rfl rfl) fun b86 hb86 => ?_
  refine Xa ?_
  refine Xa ?_
  refine Ze (Zt (Zs (Zs (Zr ?_))))
  refine Xm ?_
  refine Xm ?_
  refine Xb rfl (v_sneq rfl rfl) fun b89 hb89 => ?_
  obtain rfl : b89 = false := hb89.trans (by simp)
  refine Xm ?_
  refine x_valg rfl rfl rfl rfl rfl (v_move rfl) ?_
  refine x_valg rfl rfl rfl rfl rfl (v_move rfl) ?_
  refine x_boolg rfl rfl rfl rfl rfl (v_bneq rfl rfl u4) fun b93 hb93 => ?_
  obtain rfl : b93 = false := (by rw [hb93, hb80, hb86]; simp)
  refine Xb rfl (v_or rfl rfl) fun b94 hb94 => ?_
  obtain rfl : b94 = false := hb94
  refine Ze (Zt ?_)
  refine w_cond rfl (fun hc94 => ?_) fun hc94 => ?_
  ·cases hc94
  skip
  refine w_skip (Zt (Zs (Zr ?_)))
  refine Xa ?_
  refine Ze (Zt (w_block ?_))
  refine w_loop (σ := Nat × FM8) (fun z => z.1 ≤ 5 ∧ FOK z.2 fs ∧ z.2.pf = pf) (fun z => [(0, Pt pf), (1, Pt pm), (11, Vi (j : Nat)), (16, Vi (z.1 : Nat))]) (fun z => FO z.2 fs ++ ((Bk p38 (askL.map Value.string) 9) :: MO8 pm M fs.length)) (fun z => ro) (fun z => 5 - z.1) ((0, xb)) (⟨Nat.zero_le _, hxb, pxb⟩) (l_start Zu (fun _ h => h)) ?_
  rintro ⟨i, x⟩ ⟨hi, hx, px⟩
  refine w_state ([(0, Pt pf), (1, Pt pm), (11, Vi (j : Nat)), (16, Vi (i : Nat))]) (FO x fs ++ ((Bk p38 (askL.map Value.string) 9) :: MO8 pm M fs.length)) (ro) ?_
  dsimp only at hi hx px
  refine Zs (Zs (Zr ?_))
  refine Xm ?_
  refine Xb rfl (v_lss rfl rfl) fun b96 hb96 => ?_
  refine Ze (Zt ?_)
  refine w_cond rfl (fun hc96 => ?_) fun hc96 => ?_
  ·simp only [hb96, Qz, ne_eq] at hc96
   have hil : i < 5 := by omega
   refine w_skip (Zt (Zs (w_block (Zs (Zr ?_)))))
   refine Xm ?_
   refine Xm ?_
   refine Xm ?_
   refine x_callv rfl rfl rfl Tryz.func30 Zk rfl (fun w1 hw1 => r_Title _ w1 (by unfold in64; omega)) ?_
   refine x_turn (τ := FM8) (fst := #[]) (cap := #[]) (v := .tuple #[Vi (resolveF (stF fs).hs (wordsP (titN (i : Nat))) (j : Nat)).1, .bool (resolveF (stF fs).hs (wordsP (titN (i : Nat))) (j : Nat)).2]) (fun y => FOK y (fs) ∧ y.pf = pf) (fun y => FO y (fs) ++ ((Bk p38 (askL.map Value.string) 9) :: MO8 pm M fs.length)) rfl rfl rfl Tryz.func18 Zk rfl (fun w1 hw1 => by
    simp only [Array.empty_append, Array.append_empty]
    have h := k_Resolve (h := (j : Nat)) (t := (titN (i : Nat))) (L := ((Bk p38 (askL.map Value.string) 9) :: MO8 pm M fs.length)) hx (by unfold in64; omega) (Nat.le_trans (titN_sz _) (by omega)) hro hL hw1
    rw [px] at h
    exact h) ?_
   rintro xc ⟨hxc, pxc⟩
   refine Xm ?_
   refine Xe ?_
   refine Xb rfl (v_extract rfl rfl) fun b106 hb106 => ?_
   refine Xa ?_
   refine Xa ?_
   refine Ze (Zt (Zs (Zr ?_)))
   refine Xm ?_
   refine Xm ?_
   refine Xm ?_
   refine x_callv rfl rfl rfl Tryz.func30 Zk rfl (fun w1 hw1 => r_Title _ w1 (by unfold in64; omega)) ?_
   refine x_callv rfl rfl rfl Tryz.func77 Zk rfl (fun w1 hw1 => r_Resolve w1 (at_ownL (vs := [rowV M fs.length]) (List.mem_append_right _ (.tail _ (.head _))) rfl w1 hw1) hM (fun q hq => hw1.own_at q (List.mem_append_right _ (.tail _ (.tail _ hq)))) hok hsz (j : Nat) (titN (i : Nat)) (Nat.le_trans (titN_sz _) (by omega))) ?_
   refine Xm ?_
   refine Xe ?_
   refine Xb rfl (v_extract rfl rfl) fun b114 hb114 => ?_
   refine Xa ?_
   refine Xa ?_
   refine Ze (Zt (Zs (Zr ?_)))
   refine Xm ?_
   refine Xm ?_
   refine Xb rfl (v_neq rfl rfl) fun b117 hb117 => ?_
   obtain rfl : b117 = false := hb117.trans (by simp)
   refine Xm ?_
   refine x_valg rfl rfl rfl rfl rfl (v_move rfl) ?_
   refine x_valg rfl rfl rfl rfl rfl (v_move rfl) ?_
   refine x_boolg rfl rfl rfl rfl rfl (v_bneq rfl rfl u4) fun b121 hb121 => ?_
   obtain rfl : b121 = false := (by rw [hb121, hb106, hb114]; simp)
   refine Xb rfl (v_or rfl rfl) fun b122 hb122 => ?_
   obtain rfl : b122 = false := hb122
   refine Ze (Zt ?_)
   refine w_cond rfl (fun hc122 => ?_) fun hc122 => ?_
   ·cases hc122
   skip
   refine w_skip (b_norm (Zt (Zr ?_)))
   refine Xm ?_
   refine Xv rfl (v_addi rfl rfl rfl Zo) ?_
   refine Xa ?_
   refine Ze ?_
   exact l_norm (i + 1, xc) ⟨hil, hxc, pxc⟩ (by simp only; omega) Zu (fun _ h => h)
  skip
  refine w_exit ?_
  refine t_exit ?_
  refine t_exit ?_
  refine b_hit ?_
  refine b_norm (Zt (Zr ?_))
  refine Xm ?_
  refine Xv rfl (v_addi rfl rfl rfl Zo) ?_
  refine Xa ?_
  refine Ze ?_
  exact l_norm (j + 1, x) ⟨hjl, hx, px⟩ (by simp only; omega) Zu (fun _ h => h)
 skip
 refine w_exit ?_
 refine t_exit ?_
 refine t_exit ?_
 refine b_hit ?_
 refine Zt (Zs (Zr ?_))
 refine Xa ?_
 refine Ze (Zt (w_ret ?_))
 exact ret1 rfl rfl (fun w' hm => ⟨rfl, x, hx, hm.less ((List.Sublist.refl _).append (List.sublist_cons_self _ _)) (fun _ h => h)⟩)
end Go.Proofs.YtnflcekodobdlaaGreatDoor

namespace Go.Proofs.YtnflcekodobdlaaGreatDoor
open Go.RowKit Go.PK
attribute [local irreducible] WX
set_option maxHeartbeats 4000000 in
theorem lawPlays {A0 : Option Addr} {c0 : Nat} {qs : List (List Int)} (w : World) (hq : sliceRd (tyArr (tyK .i64) 4) (fun _ => True) w (.slice A0 qs.length c0) qs) (hL : LD w) :
  Calls Tryz.prog 11 #[.slice A0 qs.length c0] w fun e w' => e = .returned (.bool (true)) ∧ Later w w' := by
 have hsm : ∀ f ∈ feedsF qs, smF f := feedsF_sm
 refine enter (vs := [.slice A0 qs.length c0]) Tryz.func11 rfl Tryz.ntmps11 rfl ?_
 refine Zs (Zr ?_)
 refine Xa ?_
 refine Ze (Zt (Zs (Zr ?_)))
 refine x_callb rfl rfl rfl Tryz.func14 Zk rfl (fun w1 hw1 => c_sanity w1 (hL.later (hw1.base (by simp)))) fun b8 hb8 => ?_
 obtain rfl : b8 = true := hb8
 refine Xa ?_
 refine Ze (Zt (Zs (Zr ?_)))
 refine Xm ?_
 refine x_own (τ := RowS) (fun R => rowV R (feedsF qs).length) (fun R => rowOK 6 R (feedsF qs).length (fdsC (feedsF qs))) (fun R => rowO 28 R) rfl rfl rfl Tryz.func23 Zk rfl (fun w1 hw1 => (r_Feeds w1 (hq.keep (Kept.later (hw1.base (by simp))))).mono fun e w2 ⟨R, h1, h2, h3⟩ => ⟨R, h1, h3.base (by simp), h2, hw1.join h3⟩) fun R hR => ?_
 refine Xa ?_
 refine Ze (Zt (Zs (Zr ?_)))
 refine x_own (τ := FM8) (fun x => Pt x.pf) (fun x => FOK x []) (fun x => FO x [] ++ rowO 28 R) rfl rfl rfl Tryz.func16 Zk rfl (fun w1 hw1 => (k_New w1).mono fun e w2 ⟨x, h1, h2, h3, h4⟩ => ⟨x, h1, h4.base (by simp), h2, Mem.join2 hw1 h4⟩) fun x0 hx0 => ?_
 refine Xa ?_
 refine Ze (Zt (Zs (Zr ?_)))
 refine Xv rfl (v_buildL (places := [(0, 1)]) u48 zr48 Zk rfl rfl) ?_
 refine x_box rfl rfl rfl rfl ?_
 intro p13
 refine Xa ?_
 refine Ze (Zt (Zs (Zs (Zr ?_))))
 refine Xa ?_
 refine Ze (Zt (w_block ?_))
 refine w_loop (σ := Nat × FM8 × RowS) (fun z => z.1 ≤ (feedsF qs).length ∧ FOK z.2.1 (takeAll ((feedsF qs).take z.1)) ∧ z.2.1.pf = x0.pf ∧ rowOK 6 z.2.2 (takeAll ((feedsF qs).take z.1)).length (fdsC (takeAll ((feedsF qs).take z.1)))) (fun z => [(3, Value.bool true), (4, rowV R (feedsF qs).length), (5, Pt x0.pf), (6, Pt p13), (7, Vi (z.1 : Nat))]) (fun z => FO z.2.1 (takeAll ((feedsF qs).take z.1)) ++ (MO8 p13 z.2.2 (takeAll ((feedsF qs).take z.1)).length ++ rowO 28 R)) (fun z => [(w, fun _ => True)]) (fun z => (feedsF qs).length - z.1) ((0, x0, none)) (⟨Nat.zero_le _, hx0, rfl, rowOK_nil⟩) (l_start Zu (fun w1 h => (h.perm (List.perm_middle (l₁ := FO x0 [])).symm).to rfl)) ?_
 rintro ⟨k, x, M⟩ ⟨hk, hx, px, hM⟩
 refine w_state ([(3, Value.bool true), (4, rowV R (feedsF qs).length), (5, Pt x0.pf), (6, Pt p13), (7, Vi (k : Nat))]) (FO x (takeAll ((feedsF qs).take k)) ++ (MO8 p13 M (takeAll ((feedsF qs).take k)).length ++ rowO 28 R)) ([(w, fun _ => True)]) ?_
 dsimp only at hk hx px hM
 refine Zs (Zs (Zr ?_))
 refine Xm ?_
 refine Xm ?_
 refine Xv (v := Vi ((feedsF qs).length : Nat)) rfl (v_len_slice u24 rfl) ?_
 refine Xb rfl (v_lss rfl rfl) fun b17 hb17 => ?_
 refine Ze (Zt ?_)
 refine w_cond rfl (fun hc17 => ?_) fun hc17 => ?_
 ·simp only [hb17, Qz, ne_eq] at hc17
  have hkl : k < (feedsF qs).length := by omega
  obtain ⟨gF, csF, cpF, hRg, hcpF, hclF⟩ := fd_cell hR hkl
  have htk : (feedsF qs).take (k + 1) = (feedsF qs).take k ++ [(feedsF qs)[k]] := List.take_succ_eq_append_getElem hkl
  have ht1 : takeAll ((feedsF qs).take (k + 1)) = (takeF (takeAll ((feedsF qs).take k)) (feedsF qs)[k]).2 := by rw [htk, takeAll_snoc]
  refine w_skip (Zt (Zs (w_block (Zs ?_))))
  refine rg_inv (rowO 28 R) 13 (.flt 0 (.flt 1 (.flt 2 (.flt 3 (.flt 4 (.flt 6 (.flt 7 (.flt 8 (.flt 9 (.flt 10 (.gr 5 (.gr 11 (.flt 12 .done) .nil) .nil))))))))))) ((List.sublist_append_right _ _).trans (List.sublist_append_right _ _)) Zk Zk ?_
  refine j_val rfl rfl (v_move rfl) ?_
  refine j_val rfl rfl (v_move rfl) ?_
  refine j_val rfl rfl (v_move rfl) ?_
  refine j_val rfl rfl (v_indexAddr u24 sz28 (congrArg (fun R => some (rowV R (feedsF qs).length)) hRg) rfl (hkl) rfl) ?_
  refine j_val rfl rfl (v_loadN (vs := (feedsF qs)[k].cells) u28 rfl sz28 rfl (fun i hi => at_ownL (vs := csF) (by rw [hRg]; exact .head _) (by rw [Nat.zero_add]; exact (hclF i hi).trans (List.getElem?_eq_getElem hi)))) ?_
  refine j_val rfl rfl (v_move rfl) ?_
  refine j_val rfl rfl (v_move rfl) ?_
  refine j_val rfl rfl (v_move rfl) ?_
  refine j_val rfl rfl (v_indexAddr u24 sz28 (congrArg (fun R => some (rowV R (feedsF qs).length)) hRg) rfl (hkl) rfl) ?_
  refine j_val rfl rfl (v_loadN (vs := (feedsF qs)[k].cells) u28 rfl sz28 rfl (fun i hi => at_ownL (vs := csF) (by rw [hRg]; exact .head _) (by rw [Nat.zero_add]; exact (hclF i hi).trans (List.getElem?_eq_getElem hi)))) ?_
  refine j_gr ?_ j_nil
  first
   | refine x_turn (τ := FM8) (fst := #[]) (cap := #[]) (v := Vi (takeF (takeAll ((feedsF qs).take k)) (feedsF qs)[k]).1) (fun y => FOK y (takeF (takeAll ((feedsF qs).take k)) (feedsF qs)[k]).2 ∧ y.pf = x0.pf) (fun y => FO y (takeF (takeAll ((feedsF qs).take k)) (feedsF qs)[k]).2 ++ (MO8 p13 M (takeAll ((feedsF qs).take k)).length ++ rowO 28 R)) rfl rfl rfl Tryz.func17 Zk rfl (fun w1 hw1 => by
    simp only [Array.empty_append, Array.append_empty]
    have h := k_Take (f := (feedsF qs)[k]) (L := (MO8 p13 M (takeAll ((feedsF qs).take k)).length ++ rowO 28 R)) hx (fd_in (hsm _ (List.getElem_mem hkl))) (.head _) hL hw1
    rw [px] at h
    exact h) ?_
   | refine x_turn (τ := FM8) (fst := #[]) (cap := #[]) (v := Vi (takeF (takeAll ((feedsF qs).take k)) (feedsF qs)[k]).1) (fun y => FOK y (takeF (takeAll ((feedsF qs).take k)) (feedsF qs)[k]).2 ∧ y.pf = x0.pf) (fun y => FO y (takeF (takeAll ((feedsF qs).take k)) (feedsF qs)[k]).2 ++ (MO8 p13 M9 (takeF (takeAll ((feedsF qs).take k)) (feedsF qs)[k]).2.length ++ rowO 28 R)) rfl rfl rfl Tryz.func17 Zk rfl (fun w1 hw1 => by
    simp only [Array.empty_append, Array.append_empty]
    have h := k_Take (f := (feedsF qs)[k]) (L := (MO8 p13 M9 (takeF (takeAll ((feedsF qs).take k)) (feedsF qs)[k]).2.length ++ rowO 28 R)) hx (fd_in (hsm _ (List.getElem_mem hkl))) (.head _) hL hw1
    rw [px] at h
    exact h) ?_
  rintro x9 ⟨hx9, px9⟩
  refine Ze ?_
  refine j_end ((List.sublist_append_right _ _).trans (List.sublist_append_right _ _)) ?_
  refine j_gr ?_ j_nil
  first
   | refine x_turn (τ := RowS) (fst := #[]) (cap := #[]) (v := Vi (takeF (takeAll ((feedsF qs).take k)) (feedsF qs)[k]).1) (fun M' => rowOK 6 M' (takeF (takeAll ((feedsF qs).take k)) (feedsF qs)[k]).2.length (fdsC (takeF (takeAll ((feedsF qs).take k)) (feedsF qs)[k]).2)) (fun M' => FO x (takeAll ((feedsF qs).take k)) ++ (MO8 p13 M' (takeF (takeAll ((feedsF qs).take k)) (feedsF qs)[k]).2.length ++ rowO 28 R)) rfl rfl rfl Tryz.func25 Zk rfl (fun w1 hw1 => by
    simp only [Array.empty_append, Array.append_empty]
    exact (r_Take (f := (feedsF qs)[k]) (L := FO x (takeAll ((feedsF qs).take k)) ++ rowO 28 R) hM (takeAll_ok _) (fd_in (hsm _ (List.getElem_mem hkl))).2.2.2.2.2 (hw1.perm (perm_swap3 _ _ _))).mono fun e w2 ⟨h1, M', h2, h3⟩ => ⟨h1, M', h2, Mem.perm h3 (perm_swap3 (MO8 p13 M' _) _ _)⟩) ?_
   | refine x_turn (τ := RowS) (fst := #[]) (cap := #[]) (v := Vi (takeF (takeAll ((feedsF qs).take k)) (feedsF qs)[k]).1) (fun M' => rowOK 6 M' (takeF (takeAll ((feedsF qs).take k)) (feedsF qs)[k]).2.length (fdsC (takeF (takeAll ((feedsF qs).take k)) (feedsF qs)[k]).2)) (fun M' => FO x9 (takeF (takeAll ((feedsF qs).take k)) (feedsF qs)[k]).2 ++ (MO8 p13 M' (takeF (takeAll ((feedsF qs).take k)) (feedsF qs)[k]).2.length ++ rowO 28 R)) rfl rfl rfl Tryz.func25 Zk rfl (fun w1 hw1 => by
    simp only [Array.empty_append, Array.append_empty]
    exact (r_Take (f := (feedsF qs)[k]) (L := FO x9 (takeF (takeAll ((feedsF qs).take k)) (feedsF qs)[k]).2 ++ rowO 28 R) hM (takeAll_ok _) (fd_in (hsm _ (List.getElem_mem hkl))).2.2.2.2.2 (hw1.perm (perm_swap3 _ _ _))).mono fun e w2 ⟨h1, M', h2, h3⟩ => ⟨h1, M', h2, Mem.perm h3 (perm_swap3 (MO8 p13 M' _) _ _)⟩) ?_
  intro M9 hM9
  refine Ze ?_
  refine j_end ((List.sublist_append_right _ _).trans (List.sublist_append_right _ _)) ?_
  refine j_bool rfl rfl (v_neq rfl rfl) fun b32 hb32 => ?_
  refine j_done ?_
  refine Ze (Zt ?_)
  refine w_cond rfl (fun hc32 => ?_) fun hc32 => ?_
  ·exact absurd (hb32.symm.trans hc32) (by simp)
  skip
  refine w_skip (b_norm (Zt (Zr ?_)))
  refine Xm ?_
  refine Xv rfl (v_addi rfl rfl rfl (by have h9 := feedsF_len qs; omega)) ?_
  refine Xa ?_
  refine Ze ?_
  exact l_norm (k + 1, x9, M9) ⟨hkl, by dsimp only; rw [ht1]; exact hx9, px9, by dsimp only; rw [ht1]; exact hM9⟩ (by simp only; omega) Zu (fun w1 h => h.to (by dsimp only; rw [ht1]))
 simp only [hb17, Qz, ne_eq] at hc17
 obtain rfl : k = (feedsF qs).length := by omega
 rw [List.take_of_length_le (Nat.le_refl _)] at hx hM
 refine x_memW (own' := FO x (takeAll (feedsF qs)) ++ MO8 p13 M (takeAll (feedsF qs)).length) (fun w1 h => (h.less ((List.Sublist.refl _).append (List.sublist_append_left _ _)) (fun _ h => h)).to (by rw [List.take_of_length_le (Nat.le_refl _)])) ?_
 refine w_exit ?_
 refine t_exit ?_
 refine t_exit ?_
 refine b_hit ?_
 refine Zt (Zs (Zr ?_))
 refine Xm ?_
 refine Xm ?_
 refine x_valg rfl rfl rfl rfl rfl (v_move rfl) ?_
 refine x_valg rfl rfl rfl rfl rfl (v_move rfl) ?_
 refine x_turng (τ := FM8) (v := .bool true) (fun y => FOK y (takeAll (feedsF qs))) (fun y => FO y (takeAll (feedsF qs)) ++ MO8 p13 M (takeAll (feedsF qs)).length) rfl rfl rfl rfl Tryz.func37 Zk rfl (fun w1 hw1 => c_agrees hx px hM (fun q hq => Nat.le_trans (hsm q (takeAll_sub _ q hq)).size (by omega)) (.head _) hL hw1) fun x5 hx5 => ?_
 refine Xb rfl (v_and rfl rfl) fun b38 hb38 => ?_
 obtain rfl : b38 = true := hb38
 refine Xa ?_
 refine Ze (Zt (w_ret ?_))
 exact ret1 rfl rfl (fun w' hm => ⟨rfl, hm.base (by simp)⟩)
end Go.Proofs.YtnflcekodobdlaaGreatDoor

namespace Go.Proofs.YtnflcekodobdlaaGreatDoor
open Go.RowKit Go.PK
attribute [local irreducible] WX
set_option maxHeartbeats 4000000 in
theorem lawAny {A0 : Option Addr} {c0 : Nat} {l : List FD} (w : World) (hq : sliceRd tyFd (fun _ => True) w (.slice A0 l.length c0) l) (hL : LD w) :
  Calls Tryz.prog 12 #[.slice A0 l.length c0] w fun e w' => e = .returned (.bool (true)) ∧ Later w w' := by
 have hinl : ∀ {k : Nat} (hk : k < l.length), inFD l[k] := fun hk => by
  obtain ⟨_, _, _, _, _, i1, i2, i3, i4, i5, i6⟩ := fd_rd hq hk
  exact ⟨i1, i2, i3, i4, i5, by omega⟩
 have hsz2 : ∀ q ∈ l, q.txt.size ≤ 1048576 := fun q hq2 => by
  obtain ⟨k, hk, rfl⟩ := List.getElem_of_mem hq2
  obtain ⟨_, _, _, _, _, i1, i2, i3, i4, i5, i6⟩ := fd_rd hq hk
  exact i6
 refine enter (vs := [.slice A0 l.length c0]) Tryz.func12 rfl Tryz.ntmps12 rfl ?_
 refine Zs (Zr ?_)
 refine Xa ?_
 refine Ze (Zt (Zs (Zr ?_)))
 refine x_callb rfl rfl rfl Tryz.func14 Zk rfl (fun w1 hw1 => c_sanity w1 (hL.later (hw1.base (by simp)))) fun b7 hb7 => ?_
 obtain rfl : b7 = true := hb7
 refine Xa ?_
 refine Ze (Zt (Zs (Zr ?_)))
 refine x_own (τ := FM8) (fun x => Pt x.pf) (fun x => FOK x []) (fun x => FO x []) rfl rfl rfl Tryz.func16 Zk rfl (fun w1 hw1 => (k_New w1).mono fun e w2 ⟨x, h1, h2, h3, h4⟩ => ⟨x, h1, h4.base (by simp), h2, hw1.join h4⟩) fun x0 hx0 => ?_
 refine Xa ?_
 refine Ze (Zt (Zs (Zr ?_)))
 refine Xv rfl (v_buildL (places := [(0, 1)]) u48 zr48 Zk rfl rfl) ?_
 refine x_box rfl rfl rfl rfl ?_
 intro p10
 refine Xa ?_
 refine Ze (Zt (Zs (Zs (Zr ?_))))
 refine Xa ?_
 refine Ze (Zt (w_block ?_))
 refine w_loop (σ := Nat × FM8 × RowS) (fun z => z.1 ≤ l.length ∧ FOK z.2.1 (takeAll (l.take z.1)) ∧ z.2.1.pf = x0.pf ∧ rowOK 6 z.2.2 (takeAll (l.take z.1)).length (fdsC (takeAll (l.take z.1)))) (fun z => [(0, Value.slice A0 l.length c0), (3, Value.bool true), (4, Pt x0.pf), (5, Pt p10), (6, Vi (z.1 : Nat))]) (fun z => FO z.2.1 (takeAll (l.take z.1)) ++ MO8 p10 z.2.2 (takeAll (l.take z.1)).length) (fun z => [(w, fun _ => True)]) (fun z => l.length - z.1) ((0, x0, none)) (⟨Nat.zero_le _, hx0, rfl, rowOK_nil⟩) (l_start Zu (fun w1 h => (h.perm (List.perm_append_comm (l₁ := [_]))).to rfl)) ?_
 rintro ⟨k, x, M⟩ ⟨hk, hx, px, hM⟩
 refine w_state ([(0, Value.slice A0 l.length c0), (3, Value.bool true), (4, Pt x0.pf), (5, Pt p10), (6, Vi (k : Nat))]) (FO x (takeAll (l.take k)) ++ MO8 p10 M (takeAll (l.take k)).length) ([(w, fun _ => True)]) ?_
 dsimp only at hk hx px hM
 refine Zs (Zs (Zr ?_))
 refine Xm ?_
 refine Xm ?_
 refine Xv (v := Vi (l.length : Nat)) rfl (v_len_slice u24 rfl) ?_
 refine Xb rfl (v_lss rfl rfl) fun b14 hb14 => ?_
 refine Xm ?_
 refine Xg ?_
 refine Xj rfl rfl rfl (fun hg0 => by subst hg0; (try simp only [Qy]); exact v_lss rfl rfl) fun b17 hb17 => ?_
 refine Xb rfl (v_and rfl rfl) fun b18 hb18 => ?_
 refine Ze (Zt ?_)
 refine w_cond rfl (fun hc18 => ?_) fun hc18 => ?_
 ·simp only [hb18, hb17, hb14, Qz, ne_eq] at hc18
  have hkl : k < l.length := by omega
  obtain ⟨b0, o0, hA0, _, hcq, _⟩ := fd_rd hq hkl
  have htk : l.take (k + 1) = l.take k ++ [l[k]] := List.take_succ_eq_append_getElem hkl
  have ht1 : takeAll (l.take (k + 1)) = (takeF (takeAll (l.take k)) l[k]).2 := by rw [htk, takeAll_snoc]
  refine w_skip (Zt (Zs (w_block (Zs ?_))))
  refine rg_inv ([]) 13 (.flt 0 (.flt 1 (.flt 2 (.flt 3 (.flt 4 (.flt 6 (.flt 7 (.flt 8 (.flt 9 (.flt 10 (.gr 5 (.gr 11 (.flt 12 .done) .nil) .nil))))))))))) (List.nil_sublist _) Zk Zk ?_
  refine j_val rfl rfl (v_move rfl) ?_
  refine j_val rfl rfl (v_move rfl) ?_
  refine j_val rfl rfl (v_move rfl) ?_
  refine j_val rfl rfl (v_indexAddr u24 sz28 (congrArg (fun A => some (Value.slice A l.length c0)) hA0) rfl (hkl) rfl) ?_
  refine j_val rfl rfl (v_loadN (vs := l[k].cells) u28 rfl sz28 rfl (fun i hi => at_ro (.head _) trivial (hcq i hi))) ?_
  refine j_val rfl rfl (v_move rfl) ?_
  refine j_val rfl rfl (v_move rfl) ?_
  refine j_val rfl rfl (v_move rfl) ?_
  refine j_val rfl rfl (v_indexAddr u24 sz28 (congrArg (fun A => some (Value.slice A l.length c0)) hA0) rfl (hkl) rfl) ?_
  refine j_val rfl rfl (v_loadN (vs := l[k].cells) u28 rfl sz28 rfl (fun i hi => at_ro (.head _) trivial (hcq i hi))) ?_
  refine j_gr ?_ j_nil
  first
   | refine x_turn (τ := FM8) (fst := #[]) (cap := #[]) (v := Vi (takeF (takeAll (l.take k)) l[k]).1) (fun y => FOK y (takeF (takeAll (l.take k)) l[k]).2 ∧ y.pf = x0.pf) (fun y => FO y (takeF (takeAll (l.take k)) l[k]).2 ++ MO8 p10 M (takeAll (l.take k)).length) rfl rfl rfl Tryz.func17 Zk rfl (fun w1 hw1 => by
    simp only [Array.empty_append, Array.append_empty]
    have h := k_Take (f := l[k]) (L := MO8 p10 M (takeAll (l.take k)).length) hx (hinl hkl) (.head _) hL hw1
    rw [px] at h
    exact h) ?_
   | refine x_turn (τ := FM8) (fst := #[]) (cap := #[]) (v := Vi (takeF (takeAll (l.take k)) l[k]).1) (fun y => FOK y (takeF (takeAll (l.take k)) l[k]).2 ∧ y.pf = x0.pf) (fun y => FO y (takeF (takeAll (l.take k)) l[k]).2 ++ MO8 p10 M9 (takeF (takeAll (l.take k)) l[k]).2.length) rfl rfl rfl Tryz.func17 Zk rfl (fun w1 hw1 => by
    simp only [Array.empty_append, Array.append_empty]
    have h := k_Take (f := l[k]) (L := MO8 p10 M9 (takeF (takeAll (l.take k)) l[k]).2.length) hx (hinl hkl) (.head _) hL hw1
    rw [px] at h
    exact h) ?_
  rintro x9 ⟨hx9, px9⟩
  refine Ze ?_
  refine j_end (List.nil_sublist _) ?_
  refine j_gr ?_ j_nil
  first
   | refine x_turn (τ := RowS) (fst := #[]) (cap := #[]) (v := Vi (takeF (takeAll (l.take k)) l[k]).1) (fun M' => rowOK 6 M' (takeF (takeAll (l.take k)) l[k]).2.length (fdsC (takeF (takeAll (l.take k)) l[k]).2)) (fun M' => FO x (takeAll (l.take k)) ++ MO8 p10 M' (takeF (takeAll (l.take k)) l[k]).2.length) rfl rfl rfl Tryz.func25 Zk rfl (fun w1 hw1 => by
    simp only [Array.empty_append, Array.append_empty]
    exact (r_Take (f := l[k]) (L := FO x (takeAll (l.take k))) hM (takeAll_ok _) (hinl hkl).2.2.2.2.2 (hw1.perm List.perm_append_comm)).mono fun e w2 ⟨h1, M', h2, h3⟩ => ⟨h1, M', h2, Mem.perm h3 (List.perm_append_comm (l₁ := MO8 p10 M' _))⟩) ?_
   | refine x_turn (τ := RowS) (fst := #[]) (cap := #[]) (v := Vi (takeF (takeAll (l.take k)) l[k]).1) (fun M' => rowOK 6 M' (takeF (takeAll (l.take k)) l[k]).2.length (fdsC (takeF (takeAll (l.take k)) l[k]).2)) (fun M' => FO x9 (takeF (takeAll (l.take k)) l[k]).2 ++ MO8 p10 M' (takeF (takeAll (l.take k)) l[k]).2.length) rfl rfl rfl Tryz.func25 Zk rfl (fun w1 hw1 => by
    simp only [Array.empty_append, Array.append_empty]
    exact (r_Take (f := l[k]) (L := FO x9 (takeF (takeAll (l.take k)) l[k]).2) hM (takeAll_ok _) (hinl hkl).2.2.2.2.2 (hw1.perm List.perm_append_comm)).mono fun e w2 ⟨h1, M', h2, h3⟩ => ⟨h1, M', h2, Mem.perm h3 (List.perm_append_comm (l₁ := MO8 p10 M' _))⟩) ?_
  intro M9 hM9
  refine Ze ?_
  refine j_end (List.nil_sublist _) ?_
  refine j_bool rfl rfl (v_neq rfl rfl) fun b33 hb33 => ?_
  refine j_done ?_
  refine Ze (Zt ?_)
  refine w_cond rfl (fun hc33 => ?_) fun hc33 => ?_
  ·exact absurd (hb33.symm.trans hc33) (by simp)
  skip
  refine w_skip (b_norm (Zt (Zr ?_)))
  refine Xm ?_
  refine Xv rfl (v_addi rfl rfl rfl Zo) ?_
  refine Xa ?_
  refine Ze ?_
  exact l_norm (k + 1, x9, M9) ⟨hkl, by dsimp only; rw [ht1]; exact hx9, px9, by dsimp only; rw [ht1]; exact hM9⟩ (by simp only; omega) Zu (fun w1 h => h.to (by dsimp only; rw [ht1]))
 skip
 refine w_exit ?_
 refine t_exit ?_
 refine t_exit ?_
 refine b_hit ?_
 refine Zt (Zs (Zr ?_))
 refine Xm ?_
 refine Xm ?_
 refine x_valg rfl rfl rfl rfl rfl (v_move rfl) ?_
 refine x_valg rfl rfl rfl rfl rfl (v_move rfl) ?_
 refine x_turng (τ := FM8) (v := .bool true) (fun y => FOK y (takeAll (l.take k))) (fun y => FO y (takeAll (l.take k)) ++ MO8 p10 M (takeAll (l.take k)).length) rfl rfl rfl rfl Tryz.func37 Zk rfl (fun w1 hw1 => c_agrees hx px hM (fun q hq => Nat.le_trans (hsz2 q (List.mem_of_mem_take (takeAll_sub _ q hq))) (by omega)) (.head _) hL hw1) fun x5 hx5 => ?_
 refine Xb rfl (v_and rfl rfl) fun b39 hb39 => ?_
 obtain rfl : b39 = true := hb39
 refine Xa ?_
 refine Ze (Zt (w_ret ?_))
 exact ret1 rfl rfl (fun w' hm => ⟨rfl, hm.base (by simp)⟩)
end Go.Proofs.YtnflcekodobdlaaGreatDoor

namespace Go.Proofs.YtnflcekodobdlaaGreatDoor
open Go.RowKit Go.PK
attribute [local irreducible] WX
theorem tmod_at {m n : Nat} (h : 0 < n) : ((m : Nat) : Int).tmod (n : Int) = ((m % n : Nat) : Int) := by
 rw [Int.tmod_eq_emod_of_nonneg (by omega)]; rfl
theorem acc_in {qs : List (List Int)} {x : FD} (h : x ∈ accF (feedsF qs)) : smF x := feedsF_sm x (accF_sub _ x h)
set_option maxHeartbeats 4000000 in
theorem lawOld {A0 : Option Addr} {c0 : Nat} {qs : List (List Int)} (w : World) (hq : sliceRd (tyArr (tyK .i64) 4) (fun _ => True) w (.slice A0 qs.length c0) qs) (wh : Nat) (how : Int) (hwh : wh ≤ 255) (hL : LD w) :
  Calls Tryz.prog 10 #[.slice A0 qs.length c0, .int .u8 (wh : Nat), .int .u8 how] w fun e w' => e = .returned (.bool (true)) ∧ Later w w' := by
 have hxo := accF_ok (feedsF qs)
 have hxr := hxo.1
 have hxap := hxo.2.1
 have hxl5 := hxo.2.2.1
 have hxl : (accF (feedsF qs)).length ≤ 100000 := by omega
 refine enter (vs := [.slice A0 qs.length c0, .int .u8 (wh : Nat), .int .u8 how]) Tryz.func10 rfl Tryz.ntmps10 rfl ?_
 refine Zs (Zr ?_)
 refine Xa ?_
 refine Ze (Zt (Zs (Zr ?_)))
 refine x_callb rfl rfl rfl Tryz.func14 Zk rfl (fun w1 hw1 => c_sanity w1 (hL.later (hw1.base (by simp)))) fun b12 hb12 => ?_
 obtain rfl : b12 = true := hb12
 refine Xa ?_
 refine Ze (Zt (Zs (Zr ?_)))
 refine Xm ?_
 refine x_own (τ := RowS) (fun R => rowV R (feedsF qs).length) (fun R => rowOK 6 R (feedsF qs).length (fdsC (feedsF qs))) (fun R => rowO 28 R) rfl rfl rfl Tryz.func23 Zk rfl (fun w1 hw1 => (r_Feeds w1 (hq.keep (Kept.later (hw1.base (by simp))))).mono fun e w2 ⟨R, h1, h2, h3⟩ => ⟨R, h1, h3.base (by simp), h2, hw1.join h3⟩) fun R hR => ?_
 refine x_own (τ := RowS) (fun U => rowV U (accF (feedsF qs)).length) (fun U => rowOK 6 U (accF (feedsF qs)).length (fdsC (accF (feedsF qs)))) (fun U => rowO 28 U) rfl rfl rfl Tryz.func34 Zk rfl (fun w1 hw1 => (c_acc w1 (hw1.rowR hR (fun q hq => hq)) (by have h9 := feedsF_len qs; omega) (fun f hf => fd_in (feedsF_sm f hf))).mono fun e w2 ⟨U, h1, h2, h3⟩ => ⟨U, h1, h3.base (by simp), h2, hw1.join h3⟩) fun U hU => ?_
 refine Xa ?_
 refine Ze (Zt (Zs (Zs (Zr ?_))))
 refine Xm ?_
 refine Xv (v := Vi ((accF (feedsF qs)).length : Nat)) rfl (v_len_slice u24 rfl) ?_
 refine Xb rfl (v_eql rfl rfl) fun b18 hb18 => ?_
 refine Ze (Zt ?_)
 refine w_cond rfl (fun hc18 => ?_) fun hc18 => ?_
 ·skip
  refine Zs (Zr ?_)
  refine Xm ?_
  refine Xa ?_
  refine Ze (Zt (w_ret (t_ret ?_)))
  exact ret1 rfl rfl (fun w' hm => ⟨rfl, hm.base (by simp)⟩)
 simp only [hb18, Qz, ne_eq] at hc18
 have hpos : 0 < (accF (feedsF qs)).length := by omega
 obtain ⟨i, hie, hi⟩ : ∃ i, i = wh % (accF (feedsF qs)).length ∧ i < (accF (feedsF qs)).length := ⟨_, rfl, Nat.mod_lt wh hpos⟩
 obtain ⟨gU, csU, cpU, hUg, hcpU, hclU⟩ := fd_cell hU hi
 have hxm : (accF (feedsF qs))[i] ∈ (accF (feedsF qs)) := List.getElem_mem hi
 have hsx := acc_in hxm
 have hrx := hxr _ hxm
 refine w_skip (Zt (Zs (Zr ?_)))
 refine Xm ?_
 refine x_own (τ := FM8) (fun x => Pt x.pf) (fun x => FOK x (takeAll (accF (feedsF qs)))) (fun x => FO x (takeAll (accF (feedsF qs))) ++ rowO 28 U) rfl rfl rfl Tryz.func24 Zk rfl (fun w1 hw1 => (c_taken w1 (hw1.rowR hU (fun q hq => hq)) hxl (fun f hf => fd_in (acc_in hf)) (hL.later (hw1.base (by simp)))).mono fun e w2 ⟨x, h1, h2, h3⟩ => ⟨x, h1, h3.base (by simp), h2, Mem.join2 hw1 h3⟩) fun x0 hx0 => ?_
 refine Xa ?_
 refine Ze (Zt (Zs (Zr ?_)))
 refine Xm ?_
 refine x_callv (v := Value.string (encF8 (takeAll (accF (feedsF qs))))) rfl rfl rfl Tryz.func35 Zk rfl (fun w1 hw1 => k_Encode w1 (R := x0.F) (at_ownL (vs := fmC x0 (takeAll (accF (feedsF qs))).length) (List.mem_append_left _ (FO_head x0 (takeAll (accF (feedsF qs))))) rfl w1 hw1) hx0.row (fun q hq => hw1.own_at q (List.mem_append_left _ (FO_row x0 (takeAll (accF (feedsF qs))) q hq))) hx0.ok.len (fun q hq => Nat.le_trans (acc_in (takeAll_sub _ q hq)).size (by omega)) (fun q hq => (hx0.sz q hq).imp_right fun h => ⟨h.1, h.2.1, h.2.2.1, h.2.2.2.1⟩)) ?_
 refine Xa ?_
 refine Ze (Zt (Zs (Zr ?_)))
 refine Xm ?_
 refine Xm ?_
 refine Xv rfl (v_conv64 u5 u3 rfl (by omega)) ?_
 refine Xm ?_
 refine Xv (v := Vi ((accF (feedsF qs)).length : Nat)) rfl (v_len_slice u24 rfl) ?_
 refine Xv (v := Vi ((i : Nat) : Int)) rfl (by rw [hie, ← tmod_at (m := wh) hpos]; exact v_rem rfl rfl (by omega)) ?_
 refine Xv rfl (v_indexAddr u24 sz28 (congrArg (fun R => some (rowV R (accF (feedsF qs)).length)) hUg) rfl (hi) rfl) ?_
 refine Xv rfl (v_loadN (vs := (accF (feedsF qs))[i].cells) u28 rfl sz28 rfl (fun i hi => at_ownL (vs := csU) (List.mem_append_right _ (by rw [hUg]; exact .head _)) (by rw [Nat.zero_add]; exact (hclU i hi).trans (List.getElem?_eq_getElem hi)))) ?_
 refine x_alloc rfl rfl rfl zr28 ?_
 intro p11
 refine x_store0 [] rfl rfl rfl rfl sz28 rfl rfl ?_
 refine Ze (Zt ?_)
 refine w_seq_cut (σ := FD) (fun yy => rightF yy ∧ yy.num = (accF (feedsF qs))[i].num ∧ yy.ag = (accF (feedsF qs))[i].ag ∧ yy ≠ (accF (feedsF qs))[i] ∧ inFD yy) (fun yy => [(1, Value.int .u8 (wh : Nat)), (7, Value.bool true), (8, rowV U (accF (feedsF qs)).length), (9, Pt x0.pf), (10, Value.string (encF8 (takeAll (accF (feedsF qs))))), (11, Pt p11)]) (fun yy => FO x0 (takeAll (accF (feedsF qs))) ++ ((p11, Obj.cells (yy).cells.toArray 28) :: rowO 28 U)) (fun yy => [(w, fun _ => True)]) ?_ ?_
 ·refine w_seq ?_
  refine Zr ?_
  refine Xm ?_
  refine Xv rfl (v_rem rfl rfl (by decide)) ?_
  refine Ze (Zt (w_block (Zs (Zr ?_))))
  refine Xb rfl (v_eql rfl rfl) fun b40 hb40 => ?_
  refine Xa ?_
  refine Ze (Zt ?_)
  refine w_cond rfl (fun hc39 => ?_) fun hc39 => ?_
  ·skip
   refine Zr ?_
   refine Xf 3 rfl u28 rfl sz3 ?_
   refine Xl rfl u3 rfl (at_ownL (vs := (accF (feedsF qs))[i].cells) (.head _) rfl) ?_
   refine Xv rfl (v_addi (c := (accF (feedsF qs))[i].hd + 1) rfl rfl rfl (by obtain ⟨_, _, _, _, _, _, j7, j8, _⟩ := hsx; omega)) ?_
   refine Xf 3 rfl u28 rfl sz3 ?_
   refine x_store [] rfl rfl rfl rfl sz3 rfl (by show 3 + 1 ≤ 6; decide) ?_
   refine Ze (b_norm ?_)
   exact c_norm ({ (accF (feedsF qs))[i] with hd := (accF (feedsF qs))[i].hd + 1 }) ⟨right_hd hrx, rfl, rfl, ne_hd _, by obtain ⟨i1, i2, i3, i4, i5, i6⟩ := fd_in hsx; have hz9 := hsx.size; obtain ⟨_, _, _, _, _, _, _, j8, _, j10, _⟩ := hsx; unfold inFD in64 at *; dsimp only; (try rw [ByteArray.size_append, show anoB.size = 7 from rfl]); omega⟩ Zu (fun w1 h => (h.perm (List.perm_middle (l₁ := FO x0 (takeAll (accF (feedsF qs))))).symm).to rfl)
  skip
  refine Zs (Zr ?_)
  refine Xb rfl (v_eql rfl rfl) fun b46 hb46 => ?_
  refine Xa ?_
  refine Ze (Zt ?_)
  refine w_cond rfl (fun hc45 => ?_) fun hc45 => ?_
  ·skip
   refine Zr ?_
   refine Xf 4 rfl u28 rfl sz3 ?_
   refine Xl rfl u3 rfl (at_ownL (vs := (accF (feedsF qs))[i].cells) (.head _) rfl) ?_
   refine Xv rfl (v_addi (c := (accF (feedsF qs))[i].to + 1) rfl rfl rfl (by obtain ⟨_, _, _, _, _, _, _, _, j9, j10, _⟩ := hsx; omega)) ?_
   refine Xf 4 rfl u28 rfl sz3 ?_
   refine x_store [] rfl rfl rfl rfl sz3 rfl (by show 4 + 1 ≤ 6; decide) ?_
   refine Ze (b_norm ?_)
   exact c_norm ({ (accF (feedsF qs))[i] with to := (accF (feedsF qs))[i].to + 1 }) ⟨right_to hrx, rfl, rfl, ne_to _, by obtain ⟨i1, i2, i3, i4, i5, i6⟩ := fd_in hsx; have hz9 := hsx.size; obtain ⟨_, _, _, _, _, _, _, j8, _, j10, _⟩ := hsx; unfold inFD in64 at *; dsimp only; (try rw [ByteArray.size_append, show anoB.size = 7 from rfl]); omega⟩ Zu (fun w1 h => (h.perm (List.perm_middle (l₁ := FO x0 (takeAll (accF (feedsF qs))))).symm).to rfl)
  skip
  refine Zs (Zr ?_)
  refine Xf 2 rfl u28 rfl sz3 ?_
  refine x_store [] rfl rfl rfl rfl sz3 rfl (by show 2 + 1 ≤ 6; decide) ?_
  refine Ze (Zt (Zr ?_))
  refine Xf 5 rfl u28 rfl sz9 ?_
  refine Xl rfl u9 rfl (at_ownL (vs := { (accF (feedsF qs))[i] with kind := 3 }.cells) (.head _) rfl) ?_
  refine Xv rfl (v_sadd rfl rfl (by have h9 := hsx.size; show _ ≤ _; rw [show (⟨#[97, 110, 111, 116, 104, 101, 114]⟩ : ByteArray).size = 7 from rfl]; show (accF (feedsF qs))[i].txt.size + 7 ≤ _; omega)) ?_
  refine Xf 5 rfl u28 rfl sz9 ?_
  refine x_store [] rfl rfl rfl rfl sz9 rfl (by show 5 + 1 ≤ 6; decide) ?_
  refine Ze (b_norm ?_)
  exact c_norm ({ (accF (feedsF qs))[i] with kind := 3, txt := (accF (feedsF qs))[i].txt ++ anoB }) ⟨right_see hrx hsx, rfl, rfl, ne_see _, by obtain ⟨i1, i2, i3, i4, i5, i6⟩ := fd_in hsx; have hz9 := hsx.size; obtain ⟨_, _, _, _, _, _, _, j8, _, j10, _⟩ := hsx; unfold inFD in64 at *; dsimp only; (try rw [ByteArray.size_append, show anoB.size = 7 from rfl]); omega⟩ Zu (fun w1 h => (h.perm (List.perm_middle (l₁ := FO x0 (takeAll (accF (feedsF qs))))).symm).to rfl)
 rintro yy ⟨hyr, hy1, hy2, hy3, hyi⟩
 refine w_state ([(1, Value.int .u8 (wh : Nat)), (7, Value.bool true), (8, rowV U (accF (feedsF qs)).length), (9, Pt x0.pf), (10, Value.string (encF8 (takeAll (accF (feedsF qs))))), (11, Pt p11)]) (FO x0 (takeAll (accF (feedsF qs))) ++ ((p11, Obj.cells (yy).cells.toArray 28) :: rowO 28 U)) ([(w, fun _ => True)]) ?_
 refine Zs (Zr ?_)
 refine Xm ?_
 refine Xm ?_
 refine x_valg rfl rfl rfl rfl rfl (v_move rfl) ?_
 refine x_valg rfl rfl rfl rfl rfl (v_load_blk u28 rfl rfl (List.mem_append_right _ (.head _)) (by exact sz28)) ?_
 refine x_turng (τ := FM8) (v := Vi 30) (fun y => FOK y ((takeAll (accF (feedsF qs)))) ∧ y.pf = x0.pf) (fun y => FO y ((takeAll (accF (feedsF qs)))) ++ ((p11, Obj.cells (yy).cells.toArray 28) :: rowO 28 U)) rfl rfl rfl rfl Tryz.func17 Zk rfl (fun w1 hw1 => by
  have h := k_Take (f := yy) (L := ((p11, Obj.cells (yy).cells.toArray 28) :: rowO 28 U)) hx0 hyi (.head _) hL hw1
  rw [old_of hxr hxap hxl5 hxm hyr hy1 hy2 hy3] at h
  exact h) ?_
 rintro xa ⟨hxa, pxa⟩
 refine x_boolg rfl rfl rfl rfl rfl (v_eql rfl rfl) fun b56 hb56 => ?_
 obtain rfl : b56 = true := hb56.trans (by decide)
 refine Xb rfl (v_and rfl rfl) fun b57 hb57 => ?_
 obtain rfl : b57 = true := hb57
 refine Xm ?_
 refine x_valg rfl rfl rfl rfl rfl (v_move rfl) ?_
 refine x_callvg (v := Value.string (encF8 (takeAll (accF (feedsF qs))))) rfl rfl rfl rfl rfl Tryz.func35 Zk rfl (fun w1 hw1 => k_Encode w1 (R := xa.F) (by rw [← pxa]; exact at_ownL (vs := fmC xa (takeAll (accF (feedsF qs))).length) (List.mem_append_left _ (FO_head xa (takeAll (accF (feedsF qs))))) rfl w1 hw1) hxa.row (fun q hq => hw1.own_at q (List.mem_append_left _ (FO_row xa (takeAll (accF (feedsF qs))) q hq))) hxa.ok.len (fun q hq => Nat.le_trans (acc_in (takeAll_sub _ q hq)).size (by omega)) (fun q hq => (hxa.sz q hq).imp_right fun h => ⟨h.1, h.2.1, h.2.2.1, h.2.2.2.1⟩)) ?_
 refine x_valg rfl rfl rfl rfl rfl (v_move rfl) ?_
 refine x_boolg rfl rfl rfl rfl rfl (v_seql rfl rfl) fun b62 hb62 => ?_
 obtain rfl : b62 = true := hb62.trans (decide_eq_true rfl)
 refine Xb rfl (v_and rfl rfl) fun b63 hb63 => ?_
 obtain rfl : b63 = true := hb63
 refine Xm ?_
 refine x_valg rfl rfl rfl rfl rfl (v_move rfl) ?_
 refine x_valg rfl rfl rfl rfl rfl (v_move rfl) ?_
 refine x_valg rfl rfl rfl rfl rfl (v_move rfl) ?_
 refine x_valg rfl rfl rfl rfl rfl (v_conv64 u5 u3 rfl (by omega)) ?_
 refine x_valg rfl rfl rfl rfl rfl (v_move rfl) ?_
 refine x_valg (v := Vi ((accF (feedsF qs)).length : Nat)) rfl rfl rfl rfl rfl (v_len_slice u24 rfl) ?_
 refine x_valg (v := Vi ((i : Nat) : Int)) rfl rfl rfl rfl rfl (by rw [hie, ← tmod_at (m := wh) hpos]; exact v_rem rfl rfl (by omega)) ?_
 refine x_valg rfl rfl rfl rfl rfl (v_indexAddr u24 sz28 (congrArg (fun R => some (rowV R (accF (feedsF qs)).length)) hUg) rfl (hi) rfl) ?_
 refine x_valg rfl rfl rfl rfl rfl (v_loadN (vs := (accF (feedsF qs))[i].cells) u28 rfl sz28 rfl (fun i hi => at_ownL (vs := csU) (List.mem_append_right _ (.tail _ (by rw [hUg]; exact .head _))) (by rw [Nat.zero_add]; exact (hclU i hi).trans (List.getElem?_eq_getElem hi)))) ?_
 refine x_turng (τ := FM8) (v := Vi 22) (fun y => FOK y ((takeAll (accF (feedsF qs)))) ∧ y.pf = x0.pf) (fun y => FO y ((takeAll (accF (feedsF qs)))) ++ ((p11, Obj.cells (yy).cells.toArray 28) :: rowO 28 U)) rfl rfl rfl rfl Tryz.func17 Zk rfl (fun w1 hw1 => by
  have h := k_Take (f := (accF (feedsF qs))[i]) (L := ((p11, Obj.cells (yy).cells.toArray 28) :: rowO 28 U)) hxa (fd_in hsx) (.head _) hL hw1
  rw [twice_of hxr hxap hxl5 hxm, pxa] at h
  exact h) ?_
 rintro xb ⟨hxb, pxb⟩
 refine x_boolg rfl rfl rfl rfl rfl (v_eql rfl rfl) fun b75 hb75 => ?_
 obtain rfl : b75 = true := hb75.trans (by decide)
 refine Xb rfl (v_and rfl rfl) fun b76 hb76 => ?_
 obtain rfl : b76 = true := hb76
 refine Xa ?_
 refine Ze (Zt (w_ret ?_))
 exact ret1 rfl rfl (fun w' hm => ⟨rfl, hm.base (by simp)⟩)
end Go.Proofs.YtnflcekodobdlaaGreatDoor

namespace Go.Proofs.YtnflcekodobdlaaGreatDoor
open Go.RowKit Go.PK
attribute [local irreducible] WX
theorem apb : (Tryz.prog.info? 4).map (fun j => (j.zero, j.size, j.bytes)) = some (some (.bool false), 1, 1) := by kernel_rfl
theorem ord_p1 {α : Type} {p : α} {A B C : List α} : (p :: (A ++ (B ++ C))).Perm (A ++ (B ++ (p :: C))) := by
 have h1 : (p :: (A ++ (B ++ C))).Perm (A ++ (p :: (B ++ C))) := List.perm_middle.symm
 exact h1.trans (List.Perm.append_left A List.perm_middle.symm)
theorem ord_p2 {α : Type} {A R C : List α} : (A ++ (R ++ (C ++ []))).Perm (C ++ (R ++ A)) := by
 rw [List.append_nil]
 exact List.perm_append_comm.trans (by rw [List.append_assoc]; exact (perm_swap3 R C A))
theorem set_row {cs : List Value} {n : Nat} {v : Value} (h : n < cs.length) : cs.take n ++ [v] ++ cs.drop (n + 1) = cs.set n v := by
 rw [List.set_eq_take_append_cons_drop, if_pos h]; simp
theorem u8_at {D : Nat → Prop} {w : World} {A : Option Addr} {cp : Nat} {xs : List Int} (h : sliceRd (tyK .u8) D w (.slice A xs.length cp) xs) {k : Nat} (hk : k < xs.length) : ∃ b o, A = some ⟨b, o, none⟩ ∧ D b ∧ w.cell? ⟨b, o + k * 1, none⟩ = some (.int .u8 xs[k]) ∧ 0 ≤ xs[k] ∧ xs[k] ≤ 255 := by
 obtain ⟨A', c', hv, h1, h2, h3⟩ := h
 injection hv with e1 e2 e3
 subst e1 e3
 obtain ⟨b, o, e, hD, _, hc⟩ := h3 (by omega)
 obtain ⟨cs, k1, k2, k3⟩ := hc k hk
 subst k2
 exact ⟨b, o, e, hD, k1 0 (by show 0 < 1; decide), k3⟩
set_option maxHeartbeats 4000000 in
theorem lawOrder {A0 : Option Addr} {c0 : Nat} {qs : List (List Int)} (w : World) (hq : sliceRd (tyArr (tyK .i64) 4) (fun _ => True) w (.slice A0 qs.length c0) qs) {AO : Option Addr} {cO : Nat} {od : List Int} (ho : sliceRd (tyK .u8) (fun _ => True) w (.slice AO od.length cO) od) (hL : LD w) :
  Calls Tryz.prog 9 #[.slice A0 qs.length c0, .slice AO od.length cO] w fun e w' => e = .returned (.bool (true)) ∧ Later w w' := by
 have hodl : od.length ≤ maxLen := by obtain ⟨_, _, hv, h1, h2, _⟩ := id ho; first | exact h2 | omega
 have hxo := accF_ok (feedsF qs)
 have hxr := hxo.1
 have hxap := hxo.2.1
 have hxl5 := hxo.2.2.1
 have hxl6 : (accF (feedsF qs)).length ≤ 60 := by have h9 := accF_len (feedsF qs); have h8 := feedsF_len qs; omega
 have hxl : (accF (feedsF qs)).length ≤ 100000 := by omega
 have hrl : (stF (takeAll (accF (feedsF qs)))).ref.length ≤ 100000 := by have h9 := (fs_bnd' (takeAll_ok (accF (feedsF qs)))).ref; omega
 refine enter (vs := [.slice A0 qs.length c0, .slice AO od.length cO]) Tryz.func9 rfl Tryz.ntmps9 rfl ?_
 refine Zs (Zr ?_)
 refine Xa ?_
 refine Ze (Zt (Zs (Zr ?_)))
 refine x_callb rfl rfl rfl Tryz.func14 Zk rfl (fun w1 hw1 => c_sanity w1 (hL.later (hw1.base (by simp)))) fun b20 hb20 => ?_
 obtain rfl : b20 = true := hb20
 refine Xa ?_
 refine Ze (Zt (Zs (Zr ?_)))
 refine Xm ?_
 refine x_own (τ := RowS) (fun R => rowV R (feedsF qs).length) (fun R => rowOK 6 R (feedsF qs).length (fdsC (feedsF qs))) (fun R => rowO 28 R) rfl rfl rfl Tryz.func23 Zk rfl (fun w1 hw1 => (r_Feeds w1 (hq.keep (Kept.later (hw1.base (by simp))))).mono fun e w2 ⟨R, h1, h2, h3⟩ => ⟨R, h1, h3.base (by simp), h2, hw1.join h3⟩) fun R hR => ?_
 refine x_own (τ := RowS) (fun U => rowV U (accF (feedsF qs)).length) (fun U => rowOK 6 U (accF (feedsF qs)).length (fdsC (accF (feedsF qs)))) (fun U => rowO 28 U) rfl rfl rfl Tryz.func34 Zk rfl (fun w1 hw1 => (c_acc w1 (hw1.rowR hR (fun q hq => hq)) (by have h9 := feedsF_len qs; omega) (fun f hf => fd_in (feedsF_sm f hf))).mono fun e w2 ⟨U, h1, h2, h3⟩ => ⟨U, h1, h3.base (by simp), h2, hw1.join h3⟩) fun U hU => ?_
 refine Xa ?_
 refine Ze (Zt (Zs (Zr ?_)))
 refine Xm ?_
 refine x_own (τ := FM8) (fun x => Pt x.pf) (fun x => FOK x (takeAll (accF (feedsF qs)))) (fun x => FO x (takeAll (accF (feedsF qs))) ++ rowO 28 U) rfl rfl rfl Tryz.func24 Zk rfl (fun w1 hw1 => (c_taken w1 (hw1.rowR hU (fun q hq => hq)) hxl (fun f hf => fd_in (acc_in hf)) (hL.later (hw1.base (by simp)))).mono fun e w2 ⟨x, h1, h2, h3⟩ => ⟨x, h1, h3.base (by simp), h2, Mem.join2 hw1 h3⟩) fun x0 hx0 => ?_
 have px0 : x0.pf = x0.pf := rfl
 refine Xa ?_
 refine Ze (Zt (Zs (Zr ?_)))
 refine x_own (τ := FM8) (fun x => Pt x.pf) (fun x => FOK x []) (fun x => FO x [] ++ (FO x0 (takeAll (accF (feedsF qs))) ++ rowO 28 U)) rfl rfl rfl Tryz.func16 Zk rfl (fun w1 hw1 => (k_New w1).mono fun e w2 ⟨x, h1, h2, h3, h4⟩ => ⟨x, h1, h4.base (by simp), h2, Mem.join2 hw1 h4⟩) fun y0 hy0 => ?_
 refine Xa ?_
 refine Ze (Zt (Zs (Zr ?_)))
 refine Xm ?_
 refine Xv (v := Vi ((accF (feedsF qs)).length : Nat)) rfl (v_len_slice u24 rfl) ?_
 refine x_makeSlice (c := (accF (feedsF qs)).length) rfl rfl rfl rfl rfl u69 apb rfl (by omega) Zx ?_
 intro p29
 refine Xa ?_
 refine Ze (Zt (Zs (Zs (Zr ?_))))
 refine Xa ?_
 refine Ze (Zt (w_block ?_))
 refine w_loop (σ := Nat × FM8 × List Bool × List FD) (fun z => z.1 ≤ od.length ∧ FOK z.2.1 z.2.2.2 ∧ z.2.1.pf = y0.pf ∧ z.2.2.1.length = (accF (feedsF qs)).length ∧ OrdP (accF (feedsF qs)) (dnS z.2.2.1) z.2.2.2) (fun z => [(1, Value.slice AO od.length cO), (5, Value.bool true), (6, rowV U (accF (feedsF qs)).length), (7, Pt x0.pf), (8, Pt y0.pf), (9, Value.slice (some ⟨p29, 0, none⟩) (accF (feedsF qs)).length (accF (feedsF qs)).length), (10, Vi (z.1 : Nat))]) (fun z => FO z.2.1 z.2.2.2 ++ (FO x0 (takeAll (accF (feedsF qs))) ++ ((Bk p29 (z.2.2.1.map Value.bool) 4) :: rowO 28 U))) (fun z => [(w, fun _ => True)]) (fun z => od.length - z.1) ((0, y0, List.replicate (accF (feedsF qs)).length false, [])) (⟨Nat.zero_le _, hy0, rfl, List.length_replicate, OrdP.nil (fun n => dnS_rep)⟩) (l_start Zu (fun w1 h => (h.perm ord_p1).to (by rw [List.map_replicate]))) ?_
 rintro ⟨k, y, dn, gs⟩ ⟨hk, hy, py, hdl, hP⟩
 refine w_state ([(1, Value.slice AO od.length cO), (5, Value.bool true), (6, rowV U (accF (feedsF qs)).length), (7, Pt x0.pf), (8, Pt y0.pf), (9, Value.slice (some ⟨p29, 0, none⟩) (accF (feedsF qs)).length (accF (feedsF qs)).length), (10, Vi (k : Nat))]) (FO y gs ++ (FO x0 (takeAll (accF (feedsF qs))) ++ ((Bk p29 (dn.map Value.bool) 4) :: rowO 28 U))) ([(w, fun _ => True)]) ?_
 dsimp only at hk hy py hdl hP
 refine Zs (Zs (Zr ?_))
 refine Xm ?_
 refine Xm ?_
 refine Xv (v := Vi (od.length : Nat)) rfl (v_len_slice u22 rfl) ?_
 refine Xb rfl (v_lss rfl rfl) fun b33 hb33 => ?_
 refine Xm ?_
 refine Xg ?_
 refine x_if [] rfl rfl rfl rfl rfl (v := Vi ((accF (feedsF qs)).length : Nat)) (fun hg => by obtain ⟨hg0, _⟩ := hg; subst hg0; (try simp only [Qy]); exact v_len_slice u24 rfl) ?_
 refine Xj rfl rfl rfl (fun hg0 => by subst hg0; (try simp only [Qy]); exact v_gtr rfl rfl) fun b37 hb37 => ?_
 refine Xb rfl (v_and rfl rfl) fun b38 hb38 => ?_
 refine Ze (Zt ?_)
 refine w_cond rfl (fun hc38 => ?_) fun hc38 => ?_
 ·simp only [hb38, hb37, hb33, Qz, ne_eq] at hc38
  have hkl : k < od.length := by omega
  have hpos : 0 < (accF (feedsF qs)).length := by omega
  obtain ⟨bO, oO, hAO, _, hcO, hOb⟩ := u8_at ho hkl
  obtain ⟨n, hne, hnl⟩ : ∃ n, n = od[k].toNat % (accF (feedsF qs)).length ∧ n < (accF (feedsF qs)).length := ⟨_, rfl, Nat.mod_lt _ hpos⟩
  obtain ⟨gU, csU, cpU, hUg, hcpU, hclU⟩ := fd_cell hU hnl
  have hnd : n < dn.length := by omega
  obtain ⟨gs3, hst, hP3⟩ := ord_step hP hxr hxap (by omega) hdl hnl
  refine w_skip (Zt (Zs (w_block (Zs (Zr ?_)))))
  refine Xm ?_
  refine Xm ?_
  refine Xv rfl (v_indexAddr u22 sz5 (congrArg (fun A => some (Value.slice A od.length cO)) hAO) rfl (hkl) rfl) ?_
  refine Xl rfl u5 rfl (at_ro (.head _) trivial (v := Value.int .u8 od[k]) hcO) ?_
  refine Xv (v := Vi ((od[k].toNat : Nat) : Int)) rfl (by rw [Int.toNat_of_nonneg hOb.1]; exact v_conv64 u5 u3 rfl (by omega)) ?_
  refine Xm ?_
  refine Xv (v := Vi ((accF (feedsF qs)).length : Nat)) rfl (v_len_slice u24 rfl) ?_
  refine Xv (v := Vi ((n : Nat) : Int)) rfl (by rw [hne, ← tmod_at (m := od[k].toNat) hpos]; exact v_rem rfl rfl (by omega)) ?_
  refine Xa ?_
  refine Ze (Zt (Zs (Zr ?_)))
  refine Xa ?_
  refine Ze (Zt ?_)
  refine w_seq_cut (σ := Unit) (fun z9 => True) (fun z9 => [(1, Value.slice AO od.length cO), (5, Value.bool true), (6, rowV U (accF (feedsF qs)).length), (7, Pt x0.pf), (8, Pt y0.pf), (9, Value.slice (some ⟨p29, 0, none⟩) (accF (feedsF qs)).length (accF (feedsF qs)).length), (10, Vi (k : Nat)), (11, Vi (n : Nat)), (12, Vi (if dn[n] = true then 22 else 0))]) (fun z9 => FO y gs ++ (FO x0 (takeAll (accF (feedsF qs))) ++ ((Bk p29 (dn.map Value.bool) 4) :: rowO 28 U))) (fun z9 => [(w, fun _ => True)]) ?_ ?_
  ·refine w_seq ?_
   refine Zr ?_
   refine Xm ?_
   refine Xm ?_
   refine Xv rfl (v_indexAddr u69 sz4 rfl rfl (hnl) rfl) ?_
   refine Xb rfl (v_load u4 rfl rfl (at_ownL (vs := dn.map Value.bool) (v := Value.bool dn[n]) (List.mem_append_right _ (List.mem_append_right _ (.head _))) (by rw [Nat.zero_add, Nat.mul_one, List.getElem?_map, List.getElem?_eq_getElem hnd]; rfl))) fun b52 hb52 => ?_
   refine Ze (Zt ?_)
   refine w_cond rfl (fun hc52 => ?_) fun hc52 => ?_
   ·simp only [hb52, Qz, ne_eq] at hc52
    have hdn : dn[n] = true := hc52
    refine Zr ?_
    refine Xa ?_
    refine Ze ?_
    exact c_norm () trivial (by rw [if_pos hdn]; repeat (first | exact Sub.nil | refine Sub.cons rfl ?_)) (fun _ h => h)
   simp only [hb52, Qz, ne_eq] at hc52
   have hdn : ¬dn[n] = true := fun h => by rw [h] at hc52; cases hc52
   refine w_skip ?_
   exact c_norm () trivial (by rw [if_neg hdn]; repeat (first | exact Sub.nil | refine Sub.cons rfl ?_)) (fun _ h => h)
  rintro _ _
  refine Zs (Zs (Zr ?_))
  refine Xm ?_
  refine Xm ?_
  refine Xm ?_
  refine Xv rfl (v_indexAddr u24 sz28 (congrArg (fun R => some (rowV R (accF (feedsF qs)).length)) hUg) rfl (hnl) rfl) ?_
  refine Xv rfl (v_loadN (vs := (accF (feedsF qs))[n].cells) u28 rfl sz28 rfl (fun i hi => at_ownL (vs := csU) (List.mem_append_right _ (List.mem_append_right _ (.tail _ (by rw [hUg]; exact .head _)))) (by rw [Nat.zero_add]; exact (hclU i hi).trans (List.getElem?_eq_getElem hi)))) ?_
  refine x_turn (τ := FM8) (fst := #[]) (cap := #[]) (v := Vi (if dn[n] = true then 22 else 0)) (fun y => FOK y (gs3) ∧ y.pf = y0.pf) (fun y => FO y (gs3) ++ (FO x0 (takeAll (accF (feedsF qs))) ++ ((Bk p29 (dn.map Value.bool) 4) :: rowO 28 U))) rfl rfl rfl Tryz.func17 Zk rfl (fun w1 hw1 => by
   simp only [Array.empty_append, Array.append_empty]
   have h := k_Take (f := (accF (feedsF qs))[n]) (L := (FO x0 (takeAll (accF (feedsF qs))) ++ ((Bk p29 (dn.map Value.bool) 4) :: rowO 28 U))) hy (fd_in (acc_in (List.getElem_mem hnl))) (.head _) hL hw1
   rw [hst, py] at h
   exact h) ?_
  rintro y9 ⟨hy9, py9⟩
  refine Xm ?_
  refine Xb rfl (v_neq rfl rfl) fun b60 hb60 => ?_
  refine Ze (Zt ?_)
  refine w_cond rfl (fun hc60 => ?_) fun hc60 => ?_
  ·exact absurd (hb60.symm.trans hc60) (by simp)
  skip
  refine w_skip (Zt (Zr ?_))
  refine Xm ?_
  refine Xm ?_
  refine Xv rfl (v_indexAddr u69 sz4 rfl rfl (hnl) rfl) ?_
  refine x_store (cs := dn.map Value.bool) (off := n) (e := 4) (l2 := rowO 28 U) (FO y9 gs3 ++ FO x0 (takeAll (accF (feedsF qs)))) rfl (by show some (Value.pointer (some ⟨p29, 0 + n * 1, none⟩)) = _; rw [Nat.zero_add, Nat.mul_one]) rfl (by rw [List.append_assoc]) sz4 rfl (by rw [List.length_map]; omega) ?_
  refine Ze (b_norm (Zt (Zr ?_)))
  refine Xm ?_
  refine Xv rfl (v_addi rfl rfl rfl (by simp only [maxLen] at hodl; omega)) ?_
  refine Xa ?_
  refine Ze ?_
  exact l_norm (k + 1, y9, dn.set n true, gs3) ⟨hkl, hy9, py9, by rw [List.length_set]; exact hdl, hP3⟩ (by simp only; omega) Zu (fun w1 h => h.to (by dsimp only; rw [show (Value.bool true).cells.toList = [Value.bool true] from rfl, set_row (by rw [List.length_map]; exact hnd), List.append_assoc, List.map_set]))
 skip
 refine w_exit ?_
 refine t_exit ?_
 refine t_exit ?_
 refine b_hit ?_
 refine Zt (Zs (Zs (Zr ?_)))
 refine Xm ?_
 refine Xv (v := Vi ((accF (feedsF qs)).length : Nat)) rfl (v_len_slice u24 rfl) ?_
 refine Xv rfl (v_subi (c := (((accF (feedsF qs)).length : Nat) : Int) - 1) rfl rfl rfl (by omega)) ?_
 refine Xa ?_
 refine Ze (Zt (w_block ?_))
 refine w_loop (σ := Nat × FM8 × List FD) (fun z => z.1 ≤ (accF (feedsF qs)).length ∧ FOK z.2.1 z.2.2 ∧ z.2.1.pf = y0.pf ∧ OrdP (accF (feedsF qs)) (fun m => dnS dn m ∨ z.1 ≤ m) z.2.2) (fun z => [(1, Value.slice AO od.length cO), (5, Value.bool true), (6, rowV U (accF (feedsF qs)).length), (7, Pt x0.pf), (8, Pt y0.pf), (9, Value.slice (some ⟨p29, 0, none⟩) (accF (feedsF qs)).length (accF (feedsF qs)).length), (13, Vi ((z.1 : Nat) - 1 : Int))]) (fun z => FO z.2.1 z.2.2 ++ (FO x0 (takeAll (accF (feedsF qs))) ++ ((Bk p29 (dn.map Value.bool) 4) :: rowO 28 U))) (fun z => [(w, fun _ => True)]) (fun z => z.1) (((accF (feedsF qs)).length, y, gs)) (⟨Nat.le_refl _, hy, py, hP.same fun m hm => ⟨.inl, fun h => h.elim id (fun h => absurd hm (Nat.not_lt.2 h))⟩⟩) (l_start Zu (fun _ h => h)) ?_
 rintro ⟨j, y2, gs2⟩ ⟨hj, hy2, py2, hP2⟩
 refine w_state ([(1, Value.slice AO od.length cO), (5, Value.bool true), (6, rowV U (accF (feedsF qs)).length), (7, Pt x0.pf), (8, Pt y0.pf), (9, Value.slice (some ⟨p29, 0, none⟩) (accF (feedsF qs)).length (accF (feedsF qs)).length), (13, Vi ((j : Nat) - 1 : Int))]) (FO y2 gs2 ++ (FO x0 (takeAll (accF (feedsF qs))) ++ ((Bk p29 (dn.map Value.bool) 4) :: rowO 28 U))) ([(w, fun _ => True)]) ?_
 dsimp only at hj hy2 py2 hP2
 refine Zs (Zs (Zr ?_))
 refine Xm ?_
 refine Xb rfl (v_geq rfl rfl) fun b68 hb68 => ?_
 refine Ze (Zt ?_)
 refine w_cond rfl (fun hc68 => ?_) fun hc68 => ?_
 ·simp only [hb68, Qz, ne_eq] at hc68
  obtain ⟨i, rfl⟩ : ∃ i, j = i + 1 := ⟨j - 1, by omega⟩
  have hin : i < (accF (feedsF qs)).length := by omega
  have hindn : i < dn.length := by omega
  have hji : (((i + 1 : Nat) : Int) - 1) = ((i : Nat) : Int) := by omega
  rw [hji]
  obtain ⟨gU, csU, cpU, hUg, hcpU, hclU⟩ := fd_cell hU hin
  refine w_skip (Zt (Zs (w_block (Zs ?_))))
  by_cases hd : dn[i] = true
  ·have hb0 : dn[i] = true := hd
   refine Zr ?_
   refine Xm ?_
   refine Xm ?_
   refine Xv rfl (v_indexAddr u69 sz4 rfl rfl (hin) rfl) ?_
   refine Xb rfl (v_load u4 rfl rfl (at_ownL (vs := dn.map Value.bool) (v := Value.bool dn[i]) (List.mem_append_right _ (List.mem_append_right _ (.head _))) (by rw [Nat.zero_add, Nat.mul_one, List.getElem?_map, List.getElem?_eq_getElem hindn]; rfl))) fun b74 hb74 => ?_
   obtain rfl : b74 = true := hb74.trans hb0
   refine Xb rfl (v_not rfl) fun b75 hb75 => ?_
   obtain rfl : b75 = false := hb75
   refine Xm ?_
   refine x_no rfl rfl rfl rfl rfl ?_
   refine x_no rfl rfl rfl rfl rfl ?_
   refine x_no rfl rfl rfl rfl rfl ?_
   refine x_no rfl rfl rfl rfl rfl ?_
   refine x_no rfl rfl rfl rfl rfl ?_
   refine x_no rfl rfl rfl rfl rfl ?_
   refine x_no rfl rfl rfl rfl rfl ?_
   refine Xb rfl (v_and (v := false) rfl rfl) fun b84 hb84 => ?_
   refine Ze (Zt ?_)
   refine w_cond rfl (fun hc84 => ?_) fun hc84 => ?_
   ·rw [hb84] at hc84; cases hc84
   skip
   refine w_skip (b_norm (Zt (Zr ?_)))
   refine Xm ?_
   refine Xv rfl (v_subi (c := ((i : Nat) : Int) - 1) rfl rfl rfl (by omega)) ?_
   refine Xa ?_
   refine Ze ?_
   exact l_norm (i, y2, gs2) ⟨by dsimp only; omega, hy2, py2, hP2.same fun m hm => ⟨fun q => q.elim .inl (fun q => .inr (by omega)), fun q => q.elim .inl (fun q => by rcases Nat.lt_or_eq_of_le q with q | rfl; (· exact .inr q); exact .inl (by unfold dnS; rw [List.getElem?_eq_getElem (by omega), hb0]))⟩⟩ (by simp only; omega) Zu (fun _ h => h)
  have hb0 : dn[i] = false := by simpa using hd
  have hnS : ¬(dnS dn i ∨ i + 1 ≤ i) := fun q => by
   rcases q with q | q
   ·unfold dnS at q; rw [List.getElem?_eq_getElem (by omega), hb0] at q; cases q
   omega
  obtain ⟨gs3, hst, hP3⟩ := hP2.new hxr hxap (by omega) hin hnS
  refine Zr ?_
  refine Xm ?_
  refine Xm ?_
  refine Xv rfl (v_indexAddr u69 sz4 rfl rfl (hin) rfl) ?_
  refine Xb rfl (v_load u4 rfl rfl (at_ownL (vs := dn.map Value.bool) (v := Value.bool dn[i]) (List.mem_append_right _ (List.mem_append_right _ (.head _))) (by rw [Nat.zero_add, Nat.mul_one, List.getElem?_map, List.getElem?_eq_getElem hindn]; rfl))) fun b74 hb74 => ?_
  obtain rfl : b74 = false := hb74.trans hb0
  refine Xb rfl (v_not rfl) fun b75 hb75 => ?_
  obtain rfl : b75 = true := hb75
  refine Xm ?_
  refine x_valg rfl rfl rfl rfl rfl (v_move rfl) ?_
  refine x_valg rfl rfl rfl rfl rfl (v_move rfl) ?_
  refine x_valg rfl rfl rfl rfl rfl (v_move rfl) ?_
  refine x_valg rfl rfl rfl rfl rfl (v_indexAddr u24 sz28 (congrArg (fun R => some (rowV R (accF (feedsF qs)).length)) hUg) rfl (hin) rfl) ?_
  refine x_valg rfl rfl rfl rfl rfl (v_loadN (vs := (accF (feedsF qs))[i].cells) u28 rfl sz28 rfl (fun i hi => at_ownL (vs := csU) (List.mem_append_right _ (List.mem_append_right _ (.tail _ (by rw [hUg]; exact .head _)))) (by rw [Nat.zero_add]; exact (hclU i hi).trans (List.getElem?_eq_getElem hi)))) ?_
  refine x_turng (τ := FM8) (v := Vi 0) (fun y => FOK y (gs3) ∧ y.pf = y0.pf) (fun y => FO y (gs3) ++ (FO x0 (takeAll (accF (feedsF qs))) ++ ((Bk p29 (dn.map Value.bool) 4) :: rowO 28 U))) rfl rfl rfl rfl Tryz.func17 Zk rfl (fun w1 hw1 => by
   have h := k_Take (f := (accF (feedsF qs))[i]) (L := (FO x0 (takeAll (accF (feedsF qs))) ++ ((Bk p29 (dn.map Value.bool) 4) :: rowO 28 U))) hy2 (fd_in (acc_in (List.getElem_mem hin))) (.head _) hL hw1
   rw [hst, py2] at h
   exact h) ?_
  rintro y3 ⟨hy3, py3⟩
  refine x_boolg rfl rfl rfl rfl rfl (v_neq rfl rfl) fun b83 hb83 => ?_
  obtain rfl : b83 = false := hb83.trans (by decide)
  refine Xb rfl (v_and rfl rfl) fun b84 hb84 => ?_
  obtain rfl : b84 = false := hb84
  refine Ze (Zt ?_)
  refine w_cond rfl (fun hc84 => ?_) fun hc84 => ?_
  ·cases hc84
  skip
  refine w_skip (b_norm (Zt (Zr ?_)))
  refine Xm ?_
  refine Xv rfl (v_subi (c := ((i : Nat) : Int) - 1) rfl rfl rfl (by omega)) ?_
  refine Xa ?_
  refine Ze ?_
  exact l_norm (i, y3, gs3) ⟨by dsimp only; omega, hy3, py3, hP3.same fun m hm => ⟨fun q => by rcases q with (q | q) | q; (· exact .inl q); (· exact .inr (by omega)); exact .inr (by omega), fun q => by rcases q with q | q; (· exact .inl (.inl q)); rcases Nat.lt_or_eq_of_le q with q | rfl; (· exact .inl (.inr q)); exact .inr rfl⟩⟩ (by simp only; omega) Zu (fun _ h => h)
 simp only [hb68, Qz, ne_eq] at hc68
 obtain rfl : j = 0 := by omega
 have hfin := hP2.all hxr hxap hxl5 (fun m hm => .inr (Nat.zero_le m))
 subst hfin
 refine x_memW (own' := FO x0 (takeAll (accF (feedsF qs))) ++ (FO y2 (takeAll (accF (feedsF qs))) ++ [])) (fun w1 h => (h.less ((List.Sublist.refl _).append (List.sublist_append_left _ _)) (fun _ h => h)).perm ((List.perm_append_comm (l₁ := FO y2 (takeAll (accF (feedsF qs)))) (l₂ := FO x0 (takeAll (accF (feedsF qs))))).trans (.of_eq (by rw [List.append_nil])))) ?_
 refine w_exit ?_
 refine t_exit ?_
 refine t_exit ?_
 refine b_hit ?_
 refine Zt (Zs (Zs (Zr ?_)))
 refine Xm ?_
 refine x_callv (v := Value.string (encF8 (takeAll (accF (feedsF qs))))) rfl rfl rfl Tryz.func35 Zk rfl (fun w1 hw1 => k_Encode w1 (R := x0.F) (at_ownL (vs := fmC x0 (takeAll (accF (feedsF qs))).length) (List.mem_append_left _ (FO_head x0 (takeAll (accF (feedsF qs))))) rfl w1 hw1) hx0.row (fun q hq => hw1.own_at q (List.mem_append_left _ (FO_row x0 (takeAll (accF (feedsF qs))) q hq))) hx0.ok.len (fun q hq => Nat.le_trans (acc_in (takeAll_sub _ q hq)).size (by omega)) (fun q hq => (hx0.sz q hq).imp_right fun h => ⟨h.1, h.2.1, h.2.2.1, h.2.2.2.1⟩)) ?_
 refine Xm ?_
 refine x_callv (v := Value.string (encF8 (takeAll (accF (feedsF qs))))) rfl rfl rfl Tryz.func35 Zk rfl (fun w1 hw1 => k_Encode w1 (R := y2.F) (by rw [← py2]; exact at_ownL (vs := fmC y2 (takeAll (accF (feedsF qs))).length) (List.mem_append_right _ (List.mem_append_left _ (FO_head y2 (takeAll (accF (feedsF qs)))))) rfl w1 hw1) hy2.row (fun q hq => hw1.own_at q (List.mem_append_right _ (List.mem_append_left _ (FO_row y2 (takeAll (accF (feedsF qs))) q hq)))) hy2.ok.len (fun q hq => Nat.le_trans (acc_in (takeAll_sub _ q hq)).size (by omega)) (fun q hq => (hy2.sz q hq).imp_right fun h => ⟨h.1, h.2.1, h.2.2.1, h.2.2.2.1⟩)) ?_
 refine Xb rfl (v_sneq rfl rfl) fun b89 hb89 => ?_
 obtain rfl : b89 = false := hb89.trans (by simp)
 refine Xm ?_
 refine x_valg rfl rfl rfl rfl rfl (v_move rfl) ?_
 refine x_turnVg (τ := RowS × FM8) (fun z => rowV z.1 (stF (takeAll (accF (feedsF qs)))).ref.length) (fun z => rowOK 6 z.1 (stF (takeAll (accF (feedsF qs)))).ref.length (fdsC (stF (takeAll (accF (feedsF qs)))).ref) ∧ FOK z.2 (takeAll (accF (feedsF qs))) ∧ z.2.pf = x0.pf) (fun z => FO z.2 (takeAll (accF (feedsF qs))) ++ (rowO 28 z.1 ++ (FO y2 (takeAll (accF (feedsF qs))) ++ []))) rfl rfl rfl rfl Tryz.func20 Zk rfl (fun w1 hw1 => by
  have h := k_Refused (L := (FO y2 (takeAll (accF (feedsF qs))) ++ [])) hx0 (.head _) hL hw1
  rw [px0] at h
  exact h.mono fun e w2 ⟨R, h1, h2, y, ⟨h3, h4⟩, h5⟩ => ⟨(R, y), h1, ⟨h2, h3, h4⟩, h5⟩) ?_
 rintro ⟨Ra, x5⟩ ⟨hRa, hx5, px5⟩
 refine x_valg rfl rfl rfl rfl rfl (v_move rfl) ?_
 refine x_mem (own' := FO y2 (takeAll (accF (feedsF qs))) ++ (rowO 28 Ra ++ FO x5 (takeAll (accF (feedsF qs))))) (fun w1 h => h.perm ord_p2) ?_
 refine x_turnVg (τ := RowS × FM8) (fun z => rowV z.1 (stF (takeAll (accF (feedsF qs)))).ref.length) (fun z => rowOK 6 z.1 (stF (takeAll (accF (feedsF qs)))).ref.length (fdsC (stF (takeAll (accF (feedsF qs)))).ref) ∧ FOK z.2 (takeAll (accF (feedsF qs))) ∧ z.2.pf = y0.pf) (fun z => FO z.2 (takeAll (accF (feedsF qs))) ++ (rowO 28 z.1 ++ (rowO 28 Ra ++ FO x5 (takeAll (accF (feedsF qs)))))) rfl rfl rfl rfl Tryz.func20 Zk rfl (fun w1 hw1 => by
  have h := k_Refused (L := (rowO 28 Ra ++ FO x5 (takeAll (accF (feedsF qs))))) hy2 (.head _) hL hw1
  rw [py2] at h
  exact h.mono fun e w2 ⟨R, h1, h2, y, ⟨h3, h4⟩, h5⟩ => ⟨(R, y), h1, ⟨h2, h3, h4⟩, h5⟩) ?_
 rintro ⟨Rb, y5⟩ ⟨hRb, hy5, py5⟩
 refine x_callbg rfl rfl rfl rfl rfl Tryz.func36 Zk rfl (fun w1 hw1 => r_SameF w1 (hw1.rowR hRa (fun q hq => List.mem_append_right _ (List.mem_append_right _ (List.mem_append_left _ hq)))) (hw1.rowR hRb (fun q hq => List.mem_append_right _ (List.mem_append_left _ hq))) hrl hrl) fun b95 hb95 => ?_
 obtain rfl : b95 = true := hb95.trans (decide_eq_true rfl)
 refine x_boolg rfl rfl rfl rfl rfl (v_not rfl) fun b96 hb96 => ?_
 obtain rfl : b96 = false := hb96
 refine Xb rfl (v_or rfl rfl) fun b97 hb97 => ?_
 obtain rfl : b97 = false := hb97
 refine Ze (Zt ?_)
 refine w_cond rfl (fun hc97 => ?_) fun hc97 => ?_
 ·cases hc97
 skip
 refine x_memW (own' := FO x5 (takeAll (accF (feedsF qs))) ++ (FO y5 (takeAll (accF (feedsF qs))) ++ [])) (fun w1 h => ((h.less ((List.Sublist.refl _).append ((List.sublist_append_right _ _).trans (List.sublist_append_right _ _))) (fun _ h => h)).perm (List.perm_append_comm (l₁ := FO y5 (takeAll (accF (feedsF qs)))))).to (by rw [List.append_nil])) ?_
 refine w_skip (Zt (Zs (Zs (Zr ?_))))
 refine Xa ?_
 refine Ze (Zt (w_block ?_))
 refine w_loop (σ := Nat × FM8 × FM8) (fun z => 1 ≤ z.1 ∧ z.1 ≤ 9 ∧ FOK z.2.1 (takeAll (accF (feedsF qs))) ∧ z.2.1.pf = x0.pf ∧ FOK z.2.2 (takeAll (accF (feedsF qs))) ∧ z.2.2.pf = y0.pf) (fun z => [(5, Value.bool true), (7, Pt x0.pf), (8, Pt y0.pf), (14, Vi (z.1 : Nat))]) (fun z => FO z.2.1 (takeAll (accF (feedsF qs))) ++ (FO z.2.2 (takeAll (accF (feedsF qs))) ++ [])) (fun z => [(w, fun _ => True)]) (fun z => 9 - z.1) ((1, x5, y5)) (⟨Nat.le_refl _, by show 1 ≤ 9; decide, hx5, px5, hy5, py5⟩) (l_start Zu (fun _ h => h)) ?_
 rintro ⟨h, xa, ya⟩ ⟨h1, h9, hxa, pxa, hya, pya⟩
 refine w_state ([(5, Value.bool true), (7, Pt x0.pf), (8, Pt y0.pf), (14, Vi (h : Nat))]) (FO xa (takeAll (accF (feedsF qs))) ++ (FO ya (takeAll (accF (feedsF qs))) ++ [])) ([(w, fun _ => True)]) ?_
 dsimp only at h1 h9 hxa pxa hya pya
 refine Zs (Zs (Zr ?_))
 refine Xm ?_
 refine Xb rfl (v_lss rfl rfl) fun b99 hb99 => ?_
 refine Ze (Zt ?_)
 refine w_cond rfl (fun hc99 => ?_) fun hc99 => ?_
 ·simp only [hb99, Qz, ne_eq] at hc99
  have hh8 : h ≤ 8 := by omega
  refine w_skip (Zt (Zs (w_block (Zs (Zr ?_)))))
  refine Xa ?_
  refine Ze (Zt (w_block ?_))
  refine w_loop (σ := Nat × FM8 × FM8) (fun z => z.1 ≤ 5 ∧ FOK z.2.1 (takeAll (accF (feedsF qs))) ∧ z.2.1.pf = x0.pf ∧ FOK z.2.2 (takeAll (accF (feedsF qs))) ∧ z.2.2.pf = y0.pf) (fun z => [(5, Value.bool true), (7, Pt x0.pf), (8, Pt y0.pf), (14, Vi (h : Nat)), (15, Vi (z.1 : Nat))]) (fun z => FO z.2.1 (takeAll (accF (feedsF qs))) ++ (FO z.2.2 (takeAll (accF (feedsF qs))) ++ [])) (fun z => [(w, fun _ => True)]) (fun z => 5 - z.1) ((0, xa, ya)) (⟨Nat.zero_le _, hxa, pxa, hya, pya⟩) (l_start Zu (fun _ h => h)) ?_
  rintro ⟨t, xb, yb⟩ ⟨ht, hxb, pxb, hyb, pyb⟩
  refine w_state ([(5, Value.bool true), (7, Pt x0.pf), (8, Pt y0.pf), (14, Vi (h : Nat)), (15, Vi (t : Nat))]) (FO xb (takeAll (accF (feedsF qs))) ++ (FO yb (takeAll (accF (feedsF qs))) ++ [])) ([(w, fun _ => True)]) ?_
  dsimp only at ht hxb pxb hyb pyb
  refine Zs (Zs (Zr ?_))
  refine Xm ?_
  refine Xb rfl (v_lss rfl rfl) fun b103 hb103 => ?_
  refine Ze (Zt ?_)
  refine w_cond rfl (fun hc103 => ?_) fun hc103 => ?_
  ·simp only [hb103, Qz, ne_eq] at hc103
   have ht4 : t < 5 := by omega
   refine w_skip (Zt (Zs (w_block (Zs (Zr ?_)))))
   refine Xm ?_
   refine Xm ?_
   refine Xm ?_
   refine x_callv rfl rfl rfl Tryz.func30 Zk rfl (fun w1 hw1 => r_Title _ w1 (by unfold in64; omega)) ?_
   refine x_turn (τ := FM8) (fst := #[]) (cap := #[]) (v := .tuple #[Vi (resolveF (stF (takeAll (accF (feedsF qs)))).hs (wordsP (titN (t : Nat))) (h : Nat)).1, .bool (resolveF (stF (takeAll (accF (feedsF qs)))).hs (wordsP (titN (t : Nat))) (h : Nat)).2]) (fun y => FOK y ((takeAll (accF (feedsF qs)))) ∧ y.pf = x0.pf) (fun y => FO y ((takeAll (accF (feedsF qs)))) ++ (FO yb (takeAll (accF (feedsF qs))) ++ [])) rfl rfl rfl Tryz.func18 Zk rfl (fun w1 hw1 => by
    simp only [Array.empty_append, Array.append_empty]
    have h := k_Resolve (h := (h : Nat)) (t := (titN (t : Nat))) (L := (FO yb (takeAll (accF (feedsF qs))) ++ [])) hxb (by unfold in64; omega) (Nat.le_trans (titN_sz _) (by omega)) (.head _) hL hw1
    rw [pxb] at h
    exact h) ?_
   rintro xc ⟨hxc, pxc⟩
   refine Xm ?_
   refine Xe ?_
   refine Xb rfl (v_extract rfl rfl) fun b113 hb113 => ?_
   refine Xa ?_
   refine Xa ?_
   refine Ze (Zt (Zs (Zr ?_)))
   refine Xm ?_
   refine Xm ?_
   refine Xm ?_
   refine x_callv rfl rfl rfl Tryz.func30 Zk rfl (fun w1 hw1 => r_Title _ w1 (by unfold in64; omega)) ?_
   refine x_mem (own' := FO yb (takeAll (accF (feedsF qs))) ++ FO xc (takeAll (accF (feedsF qs)))) (fun w1 h => (h.perm (List.perm_append_comm (l₁ := FO xc (takeAll (accF (feedsF qs)))) (l₂ := FO yb (takeAll (accF (feedsF qs))) ++ []))).to (by rw [List.append_nil])) ?_
   refine x_turn (τ := FM8) (fst := #[]) (cap := #[]) (v := .tuple #[Vi (resolveF (stF (takeAll (accF (feedsF qs)))).hs (wordsP (titN (t : Nat))) (h : Nat)).1, .bool (resolveF (stF (takeAll (accF (feedsF qs)))).hs (wordsP (titN (t : Nat))) (h : Nat)).2]) (fun y => FOK y ((takeAll (accF (feedsF qs)))) ∧ y.pf = y0.pf) (fun y => FO y ((takeAll (accF (feedsF qs)))) ++ FO xc (takeAll (accF (feedsF qs)))) rfl rfl rfl Tryz.func18 Zk rfl (fun w1 hw1 => by
    simp only [Array.empty_append, Array.append_empty]
    have h := k_Resolve (h := (h : Nat)) (t := (titN (t : Nat))) (L := FO xc (takeAll (accF (feedsF qs)))) hyb (by unfold in64; omega) (Nat.le_trans (titN_sz _) (by omega)) (.head _) hL hw1
    rw [pyb] at h
    exact h) ?_
   rintro yc ⟨hyc, pyc⟩
   refine Xm ?_
   refine Xe ?_
   refine Xb rfl (v_extract rfl rfl) fun b121 hb121 => ?_
   refine Xa ?_
   refine Xa ?_
   refine Ze (Zt (Zs (Zr ?_)))
   refine Xm ?_
   refine Xm ?_
   refine Xb rfl (v_neq rfl rfl) fun b124 hb124 => ?_
   refine Ze (Zt ?_)
   refine w_cond rfl (fun hc124 => ?_) fun hc124 => ?_
   ·exact absurd (hb124.symm.trans hc124) (by simp)
   skip
   refine w_skip (b_norm (Zt (Zr ?_)))
   refine Xm ?_
   refine Xv rfl (v_addi rfl rfl rfl Zo) ?_
   refine Xa ?_
   refine Ze ?_
   exact l_norm (t + 1, xc, yc) ⟨ht4, hxc, pxc, hyc, pyc⟩ (by simp only; omega) Zu (fun w1 h => (h.perm (List.perm_append_comm (l₁ := FO yc (takeAll (accF (feedsF qs)))))).to (by rw [List.append_nil]))
  skip
  refine w_exit ?_
  refine t_exit ?_
  refine t_exit ?_
  refine b_hit ?_
  refine b_norm (Zt (Zr ?_))
  refine Xm ?_
  refine Xv rfl (v_addi rfl rfl rfl Zo) ?_
  refine Xa ?_
  refine Ze ?_
  exact l_norm (h + 1, xb, yb) ⟨by dsimp only; omega, by dsimp only; omega, hxb, pxb, hyb, pyb⟩ (by simp only; omega) Zu (fun _ h => h)
 skip
 refine w_exit ?_
 refine t_exit ?_
 refine t_exit ?_
 refine b_hit ?_
 refine Zt (Zs (Zr ?_))
 refine Xm ?_
 refine Xa ?_
 refine Ze (Zt (w_ret ?_))
 exact ret1 rfl rfl (fun w' hm => ⟨rfl, hm.base (by simp)⟩)
end Go.Proofs.YtnflcekodobdlaaGreatDoor
