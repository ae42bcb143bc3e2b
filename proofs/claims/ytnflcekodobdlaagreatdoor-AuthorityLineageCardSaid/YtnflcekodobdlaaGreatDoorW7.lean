/- Of the proofs of YtnflcekodobdlaaGreatDoor: Da Db Dc Dd De Ea Df Eb Ec Ed Ee Ef Fa Eg Eh Fb Fc Fd Fe Gb Gc Gd Ge Gf Fh Fi Gg Gh Gi Gj Gk Gl Gm Gn Go Xx Gp, put together. -/
import Derived.Test.YtnflcekodobdlaaGreatDoorW6
import Derived.Test.YtnflcekodobdlaaGreatDoorW3
import Derived.Test.YtnflcekodobdlaaGreatDoorW1
import Derived.Test.YtnflcekodobdlaaGreatDoorW2
import Derived.Test.YtnflcekodobdlaaGreatDoorW5
import Derived.Lay
import Derived.LaidSub
import Derived.Lib.LaidTab
import Derived.Stop.LaidErr
import Derived.Deep.DeepHandedRow
import Derived.SevenTiedAt
import Derived.Test.YtnflcekodobdlaaGreatDoorW4
set_option linter.unusedVariables false
set_option linter.unusedSimpArgs false
set_option maxRecDepth 100000

namespace Go.Proofs.YtnflcekodobdlaaGreatDoor
open Go.RowKit Go.PK
set_option maxHeartbeats 1000000 in
theorem r_Words (s : ByteArray) (w : World) (hs : s.size ≤ 4000000) :
  Calls Tryz.prog 21 #[.string s] w fun e w' => ∃ r, e = .returned (rowV r (wordsP s).length) ∧ rowOK 1 r (wordsP s).length ((wordsP s).map Value.string) ∧ Mem w' (rowO 9 r) [(w, fun _ => True)] := by
 refine enter (vs := [.string s]) Tryz.func21 rfl Tryz.ntmps21 rfl ?_
 refine Zs (Zr ?_)
 refine Xa ?_
 refine Ze (Zt (Zs (Zr ?_)))
 refine Xa ?_
 refine Ze (Zt (Zs (Zr ?_)))
 refine Xa ?_
 refine Ze (Zt (Zs (Zr ?_)))
 refine Xm ?_
 refine x_runes rfl rfl rfl u9 u100 u21 rfl (by omega) fun p9 cp9 cs9 hcp9 hcs9 hcl9 => ?_
 refine Xa ?_
 refine Ze (Zt (Zs (Zs (Zr ?_))))
 refine Xa ?_
 refine Ze (Zt (w_block ?_))
 refine w_loop (σ := Nat × RowS × List ByteArray × ByteArray) (fun z => z.1 ≤ (runes s).length ∧ rowOK 1 z.2.1 z.2.2.1.length (z.2.2.1.map Value.string) ∧ z.2.2.1 ++ wordsF ((runes s).drop z.1) z.2.2.2 = wordsP s ∧ z.2.2.2.size + wgt ((runes s).drop z.1) ≤ s.size) (fun z => [(3, rowV z.2.1 z.2.2.1.length), (4, Value.string z.2.2.2), (5, Value.slice (some ⟨p9, 0, none⟩) (runes s).length cp9), (6, Vi (z.1 : Nat))]) (fun z => (Bk p9 cs9 21) :: rowO 9 z.2.1) (fun z => [(w, fun _ => True)]) (fun z => (runes s).length - z.1) ((0, none, [], ⟨#[]⟩)) (⟨Nat.zero_le _, rowOK_nil, rfl, by have := wgt_runes s; show 0 + wgt (runes s) ≤ _; omega⟩) (l_start Zu (fun _ h => h)) ?_
 rintro ⟨k, r, ws, wd⟩ ⟨hk, hr, hws, hsz⟩
 refine w_state ([(3, rowV r ws.length), (4, Value.string wd), (5, Value.slice (some ⟨p9, 0, none⟩) (runes s).length cp9), (6, Vi (k : Nat))]) ((Bk p9 cs9 21) :: rowO 9 r) ([(w, fun _ => True)]) ?_
 dsimp only at hk hr hws hsz
 have hrl0 : (runes s).length ≤ s.size := runes_len s s.size 0 (by omega)
 refine Zs (Zs (Zr ?_))
 refine Xm ?_
 refine Xm ?_
 refine Xv (v := Vi ((runes s).length : Nat)) rfl (v_len_slice u100 rfl) ?_
 refine Xb rfl (v_lss rfl rfl) fun b13 hb13 => ?_
 refine Ze (Zt ?_)
 refine w_cond rfl (fun hc13 => ?_) fun hc13 => ?_
 ·simp only [hb13, Qz, ne_eq] at hc13
  have hkl : k < (runes s).length := by omega
  have hdr : (runes s).drop k = (runes s)[k] :: (runes s).drop (k + 1) := List.drop_eq_getElem_cons hkl
  rw [hdr] at hws hsz
  rw [wgt_cons] at hsz
  have hwl : ws.length ≤ s.size + 1 := by
   have h1 := wordsP_len s
   rw [← hws, List.length_append] at h1
   omega
  have hcell9 : cs9[k]? = some (Value.int .i32 ((runes s)[k] : Nat)) := by
   rw [← List.getElem?_take_of_lt hkl, hcs9]; exact runeC_at hkl
  have hrl := runes_le s _ (List.getElem_mem hkl)
  refine w_skip (Zt (Zs (w_block (Zs (Zr ?_)))))
  refine Xm ?_
  refine Xm ?_
  refine Xv rfl (v_indexAddr u100 sz21 rfl rfl (hkl) rfl) ?_
  refine Xl rfl u21 rfl (at_ownL (vs := cs9) (.head _) (by rw [Nat.zero_add, Nat.mul_one]; exact hcell9)) ?_
  refine x_callv rfl rfl rfl Tryz.func52 Zk rfl (fun w1 hw1 => k_Char (runes s)[k] hrl w1) ?_
  refine Xa ?_
  refine Ze (Zt (Zs (Zs (Zr ?_))))
  refine Xm ?_
  refine Xb rfl (v_sneq rfl rfl) fun b22 hb22 => ?_
  refine Ze (Zt ?_)
  refine w_cond rfl (fun hc22 => ?_) fun hc22 => ?_
  ·simp only [hb22, Qz, ne_eq] at hc22
   have hne : foldC (runes s)[k] ≠ spcB := hc22
   rw [wf_go hne] at hws
   refine Zs (Zr ?_)
   refine Xm ?_
   refine Xm ?_
   refine Xv rfl (v_sadd rfl rfl (by omega)) ?_
   refine Xa ?_
   refine Ze (Zt ?_)
   refine w_exit ?_
   refine t_exit ?_
   refine b_hit ?_
   refine Zt (Zr ?_)
   refine Xm ?_
   refine Xv rfl (v_addi rfl rfl rfl Zo) ?_
   refine Xa ?_
   refine Ze ?_
   exact l_norm (k + 1, r, ws, wd ++ foldC (runes s)[k]) ⟨hkl, hr, hws, by dsimp only; rw [ByteArray.size_append]; omega⟩ (by simp only; omega) Zu (fun _ h => h)
  simp only [hb22, Qz, ne_eq] at hc22
  have heq : foldC (runes s)[k] = spcB := hc22
  refine w_skip (Zt (Zs (Zs (Zr ?_))))
  refine Xm ?_
  refine Xb rfl (v_sneq rfl rfl) fun b27 hb27 => ?_
  refine Ze (Zt ?_)
  refine w_cond rfl (fun hc27 => ?_) fun hc27 => ?_
  ·simp only [hb27, Qz, ne_eq] at hc27
   have hw0 : wd.size ≠ 0 := fun h => hc27 (ba_nil.2 h)
   rw [wf_cut heq hw0] at hws
   refine Zr ?_
   refine Xm ?_
   refine Xm ?_
   refine x_buildSliceL (cs := [Value.string wd]) rfl rfl rfl u38 sz9 zr9 rfl rfl rfl ?_
   intro p30
   refine x_append (e := 9) [(p30, _), (p9, _)] (l2 := []) r (len := ws.length) (xs := ws.map Value.string) rfl rfl rfl rfl (by rw [List.append_nil]; rfl) hr u38 ap9 rfl rfl (m := 1) (news := [Value.string wd]) (fun i hi => at_ownL (vs := [Value.string wd]) (.head _) (by rw [Nat.zero_add]; exact List.getElem?_eq_getElem hi)) rfl Zx (by omega) fun r' hr' => ?_
   refine Xa ?_
   refine Ze (Zt (Zr ?_))
   refine Xa ?_
   refine Ze (b_norm (Zt (Zr ?_)))
   refine Xm ?_
   refine Xv rfl (v_addi rfl rfl rfl Zo) ?_
   refine Xa ?_
   refine Ze ?_
   exact l_norm (k + 1, r', ws ++ [wd], ⟨#[]⟩) ⟨hkl, by dsimp only; rw [strC_snoc, List.length_append]; exact hr', by dsimp only; rw [List.append_assoc]; exact hws, by show 0 + wgt ((runes s).drop (k + 1)) ≤ _; omega⟩ (by simp only; omega) (by dsimp only; rw [List.length_append]; exact Zu) (fun _ h => by
    have h2 := h.less (List.sublist_append_left _ _) (fun _ h => h)
    exact h2.less (List.sublist_cons_self _ _) (fun _ h => h))
  simp only [hb27, Qz, ne_eq] at hc27
  have hw0 : wd.size = 0 := ba_nil.1 (by simpa using hc27)
  rw [wf_blank heq hw0] at hws
  refine w_skip (Zt (Zr ?_))
  refine Xa ?_
  refine Ze (b_norm (Zt (Zr ?_)))
  refine Xm ?_
  refine Xv rfl (v_addi rfl rfl rfl Zo) ?_
  refine Xa ?_
  refine Ze ?_
  exact l_norm (k + 1, r, ws, ⟨#[]⟩) ⟨hkl, hr, hws, by show 0 + wgt ((runes s).drop (k + 1)) ≤ _; omega⟩ (by simp only; omega) Zu (fun _ h => h)
 simp only [hb13, Qz, ne_eq] at hc13
 obtain rfl : k = (runes s).length := by omega
 rw [List.drop_length, wf_stop] at hws
 have hwl : ws.length ≤ s.size + 1 := by
  have h1 := wordsP_len s
  rw [← hws, List.length_append] at h1
  omega
 refine w_exit ?_
 refine t_exit ?_
 refine t_exit ?_
 refine b_hit ?_
 refine Zt (Zs (Zs (Zr ?_)))
 refine Xm ?_
 refine Xb rfl (v_sneq rfl rfl) fun b33 hb33 => ?_
 refine Ze (Zt ?_)
 refine w_cond rfl (fun hc33 => ?_) fun hc33 => ?_
 ·simp only [hb33, Qz, ne_eq] at hc33
  have hw0 : wd.size ≠ 0 := fun h => hc33 (ba_nil.2 h)
  rw [if_neg hw0] at hws
  refine Zr ?_
  refine Xm ?_
  refine Xm ?_
  refine x_buildSliceL (cs := [Value.string wd]) rfl rfl rfl u38 sz9 zr9 rfl rfl rfl ?_
  intro p36
  refine x_append (e := 9) [(p36, _), (p9, _)] (l2 := []) r (len := ws.length) (xs := ws.map Value.string) rfl rfl rfl rfl (by rw [List.append_nil]; rfl) hr u38 ap9 rfl rfl (m := 1) (news := [Value.string wd]) (fun i hi => at_ownL (vs := [Value.string wd]) (.head _) (by rw [Nat.zero_add]; exact List.getElem?_eq_getElem hi)) rfl Zx (by omega) fun r' hr' => ?_
  refine Xa ?_
  refine Ze (Zt (Zs (Zr ?_)))
  refine Xm ?_
  refine Xa ?_
  refine Ze (Zt (w_ret ?_))
  exact ret1 rfl rfl (fun w' hm => ⟨r', by rw [← hws, List.length_append]; rfl, by rw [← hws, List.length_append, strC_snoc]; exact hr', by
   have h2 := hm.less (List.sublist_append_left _ _) (fun _ h => h)
   exact h2.less ((List.sublist_cons_self _ _).trans (List.sublist_cons_self _ _)) (fun _ h => h)⟩)
 simp only [hb33, Qz, ne_eq] at hc33
 have hw0 : wd.size = 0 := ba_nil.1 (by simpa using hc33)
 rw [if_pos hw0, List.append_nil] at hws
 refine w_skip (Zt (Zs (Zr ?_)))
 refine Xm ?_
 refine Xa ?_
 refine Ze (Zt (w_ret ?_))
 exact ret1 rfl rfl (fun w' hm => ⟨r, by rw [← hws], by rw [← hws]; exact hr, hm.less (List.sublist_cons_self _ _) (fun _ h => h)⟩)
theorem e_app (a : ByteArray) : (⟨#[]⟩ : ByteArray) ++ a = a := by
 apply ByteArray.ext
 simp
theorem join_step (xs : List ByteArray) {k : Nat} (h : k < xs.length) : (joinS (xs.take k)).size ≤ (joinS (xs.take (k + 1))).size := by
 rw [List.take_succ_eq_append_getElem h, joinS_snoc]
 split
 ·rename_i h1; rw [h1]; exact Nat.zero_le _
 rw [ByteArray.size_append, ByteArray.size_append]; omega
theorem join_mono (xs : List ByteArray) : ∀ n k, k + n = xs.length → (joinS (xs.take k)).size ≤ (joinS xs).size
 | 0, k, h => by rw [List.take_of_length_le (by omega)]; exact Nat.le_refl _
 | n + 1, k, h => Nat.le_trans (join_step xs (by omega)) (join_mono xs n (k + 1) (by omega))
set_option maxHeartbeats 1000000 in
theorem r_Join {xs : List ByteArray} {r : RowS} (w : World) (hr : PK.rowR 9 1 (fun x : ByteArray => [Value.string x]) r xs w) (hl : xs.length ≤ 100000000) (hj : (joinS xs).size ≤ 100000000000) :
  Calls Tryz.prog 53 #[rowV r xs.length] w fun e w' => e = .returned (.string (joinS xs)) ∧ Later w w' := by
 refine enter (vs := [rowV r xs.length]) Tryz.func53 rfl Tryz.ntmps53 rfl ?_
 refine Zs (Zr ?_)
 refine Xa ?_
 refine Ze (Zt (Zs (Zr ?_)))
 refine Xa ?_
 refine Ze (Zt (Zs (Zs (Zr ?_))))
 refine Xa ?_
 refine Ze (Zt (w_block ?_))
 refine w_loop (σ := Nat) (fun k => k ≤ xs.length) (fun k => [(0, rowV r xs.length), (3, Value.string (joinS (xs.take k))), (4, Vi (k : Nat))]) (fun k => []) (fun k => [(w, fun _ => True)]) (fun k => xs.length - k) (0) (Nat.zero_le _) (l_start Zu (fun _ h => h)) ?_
 rintro k hk
 refine w_state ([(0, rowV r xs.length), (3, Value.string (joinS (xs.take k))), (4, Vi (k : Nat))]) ([]) ([(w, fun _ => True)]) ?_
 refine Zs (Zs (Zr ?_))
 refine Xm ?_
 refine Xm ?_
 refine Xv (v := Vi (xs.length : Nat)) rfl (v_len_slice u38 rfl) ?_
 refine Xb rfl (v_lss rfl rfl) fun b8 hb8 => ?_
 refine Ze (Zt ?_)
 refine w_cond rfl (fun hc8 => ?_) fun hc8 => ?_
 ·simp only [hb8, Qz, ne_eq] at hc8
  have hkl : k < xs.length := by omega
  obtain ⟨g, cs, cp, hRg, hcp, hcl⟩ := hr.cells (c := (fun x : ByteArray => [Value.string x])) (m := 1) (fun _ => rfl) (by decide) hkl
  have hst : joinS (xs.take (k + 1)) = if k = 0 then xs[k] else joinS (xs.take k) ++ spcB ++ xs[k] := by
   rw [List.take_succ_eq_append_getElem hkl, joinS_snoc]
   by_cases h : k = 0
   ·subst h; rfl
   rw [if_neg h, if_neg (fun e => h (by have := congrArg List.length e; simpa [List.length_take, Nat.min_eq_left (Nat.le_of_lt hkl)] using this))]
  have hz1 := join_mono xs (xs.length - k) k (by omega)
  have hz2 := join_mono xs (xs.length - (k + 1)) (k + 1) (by omega)
  have hz3 : (spcB : ByteArray).size = 1 := rfl
  refine w_skip (Zt (Zs (w_block (Zs (Zs (Zr ?_))))))
  refine Xm ?_
  refine Xb rfl (v_gtr rfl rfl) fun b12 hb12 => ?_
  refine Ze (Zt ?_)
  refine w_cond rfl (fun hc12 => ?_) fun hc12 => ?_
  ·simp only [hb12, Qz, ne_eq] at hc12
   rw [if_neg (show ¬k = 0 by omega)] at hst
   have hz4 := congrArg ByteArray.size hst
   rw [ByteArray.size_append, ByteArray.size_append] at hz4
   refine Zr ?_
   refine Xm ?_
   refine Xv (v := Value.string (joinS (xs.take k) ++ spcB)) rfl (v_sadd rfl rfl (by show (joinS (xs.take k)).size + spcB.size ≤ _; omega)) ?_
   refine Xa ?_
   refine Ze (Zt (Zr ?_))
   refine Xm ?_
   refine Xm ?_
   refine Xm ?_
   refine Xv rfl (v_indexAddr u38 sz9 (congrArg (fun R => some (rowV R xs.length)) hRg) rfl (hkl) rfl) ?_
   refine Xl rfl u9 rfl (at_ro (.head _) trivial (v := Value.string xs[k]) (by rw [Nat.zero_add]; exact hcl 0 (by decide))) ?_
   refine Xv rfl (v_sadd rfl rfl (by first | omega | (rw [ByteArray.size_append]; omega))) ?_
   refine Xa ?_
   refine Ze (b_norm (Zt (Zr ?_)))
   refine Xm ?_
   refine Xv rfl (v_addi rfl rfl rfl Zo) ?_
   refine Xa ?_
   refine Ze ?_
   exact l_norm (k + 1) hkl (by omega) (by rw [hst]; exact Zu) (fun _ h => h)
  simp only [hb12, Qz, ne_eq] at hc12
  have hk0 : k = 0 := by omega
  rw [if_pos hk0] at hst
  have hst2 : joinS (xs.take (k + 1)) = joinS (xs.take k) ++ xs[k] := by
   rw [hst]
   have e0 : joinS (xs.take k) = ⟨#[]⟩ := by subst hk0; rfl
   rw [e0, e_app]
  have hz4 := congrArg ByteArray.size hst2
  rw [ByteArray.size_append] at hz4
  refine w_skip (Zt (Zr ?_))
  refine Xm ?_
  refine Xm ?_
  refine Xm ?_
  refine Xv rfl (v_indexAddr u38 sz9 (congrArg (fun R => some (rowV R xs.length)) hRg) rfl (hkl) rfl) ?_
  refine Xl rfl u9 rfl (at_ro (.head _) trivial (v := Value.string xs[k]) (by rw [Nat.zero_add]; exact hcl 0 (by decide))) ?_
  refine Xv rfl (v_sadd rfl rfl (by first | omega | (rw [ByteArray.size_append]; omega))) ?_
  refine Xa ?_
  refine Ze (b_norm (Zt (Zr ?_)))
  refine Xm ?_
  refine Xv rfl (v_addi rfl rfl rfl Zo) ?_
  refine Xa ?_
  refine Ze ?_
  exact l_norm (k + 1) hkl (by omega) (by rw [hst2]; exact Zu) (fun _ h => h)
 simp only [hb8, Qz, ne_eq] at hc8
 obtain rfl : k = xs.length := by omega
 refine w_exit ?_
 refine t_exit ?_
 refine t_exit ?_
 refine b_hit ?_
 refine Zt (Zs (Zr ?_))
 refine Xm ?_
 refine Xa ?_
 refine Ze (Zt (w_ret ?_))
 refine ret1 rfl rfl (fun w' hm => ⟨?_, hm.base (by simp)⟩)
 rw [List.take_length]
theorem r_Fold (s : ByteArray) (w : World) (hs : s.size ≤ 4000000) :
  Calls Tryz.prog 22 #[.string s] w fun e w' => e = .returned (.string (foldS s)) ∧ Later w w' := by
 refine enter (vs := [.string s]) Tryz.func22 rfl Tryz.ntmps22 rfl ?_
 refine Zs (Zr ?_)
 refine Xa ?_
 refine Ze (Zt (Zs (Zr ?_)))
 refine Xm ?_
 refine x_own (τ := RowS) (fun r => rowV r (wordsP s).length) (fun r => rowOK 1 r (wordsP s).length ((wordsP s).map Value.string)) (fun r => rowO 9 r) rfl rfl rfl Tryz.func21 Zk rfl (fun w1 hw1 => (r_Words s w1 hs).mono fun e w2 ⟨r, h1, h2, h3⟩ => ⟨r, h1, h3.base (by simp), h2, hw1.join h3⟩) fun r hr => ?_
 refine x_callv (v := Value.string (foldS s)) rfl rfl rfl Tryz.func53 Zk rfl (fun w1 hw1 => r_Join w1 (hw1.rowR (by rw [flat1]; exact hr) (fun q hq => hq)) (by have := wordsP_len s; omega) (by have := foldS_size s; unfold foldS at this; omega)) ?_
 refine Xa ?_
 refine Ze (Zt (w_ret ?_))
 refine ret1 rfl rfl (fun w' hm => ⟨?_, hm.base (by simp)⟩)
 rfl
open Go.RowKit Go.PK
open Go.RowKit Go.PK
open Go.RowKit Go.PK
structure HR where
  g : HG
  O : RowS
  S : RowS
def hrC (x : HR) : List Value := [Vi x.g.id, .string x.g.name, rowV x.O x.g.oth.length, rowV x.S x.g.spl.length, Vi x.g.into]
def hrOK (x : HR) : Prop := rowOK 1 x.O x.g.oth.length (x.g.oth.map Value.string) ∧ rowOK 2 x.S x.g.spl.length (x.g.spl.flatMap splC)
def gsR (hs : List HR) : List HG := hs.map (·.g)
structure RdR (w : World) (ps : Nat) (H : RowS) (hs : List HR) : Prop where
  st : w.cell? ⟨ps, 0, none⟩ = some (rowV H hs.length)
  row : PK.rowR 148 5 hrC H hs w
  rows : ∀ x ∈ hs, ∀ q ∈ rowO 9 x.O ++ rowO 150 x.S, w.heap[q.1]? = some q.2
  ok : ∀ x ∈ hs, hrOK x
theorem RdR.later {w w' : World} {ps : Nat} {H : RowS} {hs : List HR} (h : RdR w ps H hs) (hl : Later w w') : RdR w' ps H hs where
 st := (World.cell?_of_block (a := ⟨ps, 0, none⟩) (hl.block ps (cell_lt h.st))).trans h.st
 row := h.row.later hl
 rows := fun x hx q hq => (hl.block _ (heap_lt (h.rows x hx q hq))).trans (h.rows x hx q hq)
 ok := h.ok
def fdR (hs : List HR) (id : Int) : Int := fidx (fun x : HR => decide (x.g.id = id)) hs
theorem fdR_lk (hs : List HR) (id : Int) : (∀ i (h : i < hs.length), fdR hs id = (i : Nat) → lkH (gsR hs) id = some hs[i].g) ∧ (fdR hs id < 0 → lkH (gsR hs) id = none) ∧ (0 ≤ fdR hs id ↔ (lkH (gsR hs) id).isSome = true) := by
 have key : (lkH (gsR hs) id) = ((hs.find? (fun x : HR => decide (x.g.id = id))).map (·.g)) := by
  unfold lkH gsR
  rw [List.find?_map]; rfl
 unfold fdR fidx
 cases hq : hs.findIdx? (fun x : HR => decide (x.g.id = id)) with
 | none =>
  have h0 : hs.find? (fun x : HR => decide (x.g.id = id)) = none := List.find?_eq_none.2 fun x hx => by
   have := List.findIdx?_eq_none_iff.1 hq x hx
   rw [this]; exact Bool.false_ne_true
  rw [key, h0]
  exact ⟨fun i h he => by dsimp only at he; omega, fun _ => rfl, ⟨fun h => by dsimp only at h; omega, fun h => by cases h⟩⟩
 | some j =>
  obtain ⟨h1, h2, h3⟩ := List.findIdx?_eq_some_iff_getElem.1 hq
  have h0 : hs.find? (fun x : HR => decide (x.g.id = id)) = some hs[j] := List.find?_eq_some_iff_getElem.2 ⟨h2, j, h1, rfl, fun k hk => by simpa using h3 k hk⟩
  rw [key, h0]
  exact ⟨fun i h he => (by dsimp only at he; obtain rfl : j = i := (by omega); rfl), fun h => by dsimp only at h; omega, ⟨fun _ => rfl, fun _ => by dsimp only; omega⟩⟩
open Go.RowKit Go.PK
open Go.RowKit Go.PK
set_option maxHeartbeats 1000000 in
theorem r_Decimal (n0 : Int) (w : World) (h00 : 0 ≤ n0) (hn0 : in64 n0) :
  Calls Tryz.prog 15 #[Vi n0] w fun e w' => e = .returned (.string (itoaS n0)) ∧ Later w w' := by
 refine enter (vs := [Vi n0]) Tryz.func15 rfl Tryz.ntmps15 rfl ?_
 refine Zs (Zr ?_)
 refine Xa ?_
 refine Ze (Zt (Zs (Zr ?_)))
 refine Xa ?_
 refine Ze (Zt (Zs (w_block ?_)))
 refine w_loop (σ := Int × ByteArray) (fun z => 0 ≤ z.1 ∧ in64 z.1 ∧ itoaS n0 = itoaS z.1 ++ z.2) (fun z => [(0, Vi z.1), (3, Value.string z.2)]) (fun z => []) (fun z => [(w, fun _ => True)]) (fun z => z.1.toNat) ((n0, ⟨#[]⟩)) (⟨h00, hn0, by rw [show (⟨#[]⟩ : ByteArray) = ByteArray.empty from rfl, ByteArray.append_empty]⟩) (l_start Zu (fun _ h => h)) ?_
 rintro ⟨n, out⟩ ⟨h0, hn, hit⟩
 refine w_state ([(0, Vi n), (3, Value.string out)]) ([]) ([(w, fun _ => True)]) ?_
 dsimp only at h0 hn hit
 have hsz : out.size ≤ 21 := by
  have q1 := itoaS_size hn0
  rw [hit, ByteArray.size_append] at q1
  omega
 refine Zs (Zs (Zr ?_))
 refine Xm ?_
 refine Xb rfl (v_geq rfl rfl) fun b5 hb5 => ?_
 refine Ze (Zt ?_)
 refine w_cond rfl (fun hc5 => ?_) fun hc5 => ?_
 ·simp only [hb5, Qz, ne_eq] at hc5
  have h10 : 10 ≤ n := by omega
  refine w_skip (Zt (w_block (Zs (Zr ?_))))
  refine Xm ?_
  refine Xv (v := Vi (n % 10)) rfl (by rw [← Int.tmod_eq_emod_of_nonneg h0]; exact v_rem rfl rfl (by decide)) ?_
  refine Xv (v := Vi (48 + n % 10)) rfl (v_addi rfl rfl rfl (by omega)) ?_
  refine Xv (v := Value.int .u8 ((UInt8.ofNat (48 + (n % 10).toNat)).toNat : Nat)) rfl (by rw [← dig_c h0, Int.tmod_eq_emod_of_nonneg h0]; exact v_conv u3 u5 rfl) ?_
  refine x_buildSliceL (cs := [Value.int .u8 (UInt8.ofNat (48 + (n % 10).toNat)).toNat]) rfl rfl rfl u22 sz5 zr5 rfl rfl rfl ?_
  intro p10
  refine Xv rfl (v_toStr [UInt8.ofNat (48 + (n % 10).toNat)] u22 u5 u9 rfl rfl (fun j hj => at_ownL (vs := [Value.int .u8 (UInt8.ofNat (48 + (n % 10).toNat)).toNat]) (.head _) (by match j, hj with | 0, _ => rfl))) ?_
  refine Xm ?_
  refine Xv rfl (v_sadd rfl rfl (by rw [show (⟨#[UInt8.ofNat (48 + (n % 10).toNat)]⟩ : ByteArray).size = 1 from rfl]; omega)) ?_
  refine Xa ?_
  refine Ze (Zt (Zr ?_))
  refine Xm ?_
  refine Xv rfl (v_quoi (c := n / 10) rfl rfl (by decide) (Int.tdiv_eq_ediv_of_nonneg h0) (by unfold in64 at hn; omega)) ?_
  refine Xa ?_
  refine Ze (b_norm ?_)
  exact l_norm (n / 10, _) ⟨by dsimp only; omega, by unfold in64 at hn ⊢; dsimp only; omega, by dsimp only; rw [hit, itoaS_big h10, ByteArray.append_assoc]⟩ (by dsimp only; omega) Zu (fun _ h => h.less (List.sublist_cons_self _ _) (fun _ h => h))
 simp only [hb5, Qz, ne_eq] at hc5
 have h10 : n < 10 := by omega
 have hnm : n % 10 = n := Int.emod_eq_of_lt h0 h10
 refine w_exit ?_
 refine t_exit ?_
 refine t_exit ?_
 refine b_hit ?_
 refine Zt (Zs (Zr ?_))
 refine Xm ?_
 refine Xv (v := Vi (48 + n % 10)) rfl (v_addi rfl rfl (by omega) (by omega)) ?_
 refine Xv (v := Value.int .u8 ((UInt8.ofNat (48 + (n % 10).toNat)).toNat : Nat)) rfl (by rw [← dig_c h0, Int.tmod_eq_emod_of_nonneg h0]; exact v_conv u3 u5 rfl) ?_
 refine x_buildSliceL (cs := [Value.int .u8 (UInt8.ofNat (48 + (n % 10).toNat)).toNat]) rfl rfl rfl u22 sz5 zr5 rfl rfl rfl ?_
 intro p19
 refine Xv rfl (v_toStr [UInt8.ofNat (48 + (n % 10).toNat)] u22 u5 u9 rfl rfl (fun j hj => at_ownL (vs := [Value.int .u8 (UInt8.ofNat (48 + (n % 10).toNat)).toNat]) (.head _) (by match j, hj with | 0, _ => rfl))) ?_
 refine Xm ?_
 refine Xv rfl (v_sadd rfl rfl (by rw [show (⟨#[UInt8.ofNat (48 + (n % 10).toNat)]⟩ : ByteArray).size = 1 from rfl]; omega)) ?_
 refine Xa ?_
 refine Ze (Zt (w_ret ?_))
 refine ret1 rfl rfl (fun w' hm => ⟨?_, hm.base (by simp)⟩)
 rw [hit, itoaS_small h0 h10]
open Go.RowKit Go.PK
structure SR where
  ps : Nat
  H : RowS
  hs : List HR
  R : RowS
def hrO (x : HR) : List (Nat × Obj) := rowO 9 x.O ++ rowO 150 x.S
def HRO (hs : List HR) : List (Nat × Obj) := hs.flatMap hrO
def SRO (x : SR) (n : Nat) : List (Nat × Obj) := (Bk x.ps [rowV x.H x.hs.length, rowV x.R n] 144) :: (rowO 148 x.H ++ (rowO 28 x.R ++ HRO x.hs))
structure SRK (x : SR) (s : SG8) : Prop where
  hs : gsR x.hs = s.hs
  row : rowOK 5 x.H x.hs.length (x.hs.flatMap hrC)
  ok : ∀ h ∈ x.hs, hrOK h
  rf : rowOK 6 x.R s.ref.length (fdsC s.ref)
theorem SRK.zero (ps : Nat) : SRK ⟨ps, none, [], none⟩ (stF []) := ⟨rfl, rowOK_nil, fun h hh => (by cases hh), rowOK_nil⟩
theorem SRK.rd {x : SR} {s : SG8} (h : SRK x s) {w : World} {n : Nat} {L : List (Nat × Obj)} {ro : List Snap} (hm : Mem w (SRO x n ++ L) ro) : RdR w x.ps x.H x.hs where
 st := at_ownL (vs := [rowV x.H x.hs.length, rowV x.R n]) (.head _) rfl w hm
 row := hm.rowR h.row (fun q hq => List.mem_append_left _ (.tail _ (List.mem_append_left _ hq)))
 rows := fun y hy q hq => hm.own_at q (List.mem_append_left _ (.tail _ (List.mem_append_right _ (List.mem_append_right _ (List.mem_flatMap.2 ⟨y, hy, hq⟩)))))
 ok := h.ok
theorem setH_spl : ∀ {a : List HG} {y h : HG} {c : List HG}, (∀ z ∈ a, z.id ≠ h.id) → y.id = h.id → setH (a ++ y :: c) h = a ++ h :: c
 | [], y, h, c, _, hy => by
  show setH (y :: c) h = h :: c
  unfold setH
  rw [if_pos hy]
 | z :: a, y, h, c, ha, hy => by
  show setH (z :: (a ++ y :: c)) h = _
  unfold setH
  rw [if_neg (ha z (.head _)), setH_spl (fun q hq => ha q (.tail _ hq)) hy]; rfl
theorem setH_at {hs : List HR} {id : Int} {i : Nat} (hi : i < hs.length) (hf : fdR hs id = (i : Nat)) (x' : HR) (hid : x'.g.id = id) : setH (gsR hs) x'.g = gsR (hs.set i x') ∧ lkH (gsR hs) id = some hs[i].g := by
 refine ⟨?_, (fdR_lk hs id).1 i hi hf⟩
 unfold fdR fidx at hf
 cases hq : hs.findIdx? (fun x : HR => decide (x.g.id = id)) with
 | none => rw [hq] at hf; dsimp only at hf; omega
 | some j =>
  rw [hq] at hf
  dsimp only at hf
  have hj : j = i := by omega
  subst hj
  obtain ⟨h1, h2, h3⟩ := List.findIdx?_eq_some_iff_getElem.1 hq
  have e1 : gsR hs = gsR (hs.take j) ++ hs[j].g :: gsR (hs.drop (j + 1)) := by
   unfold gsR
   conv => lhs; rw [show hs = hs.take j ++ hs[j] :: hs.drop (j + 1) from by rw [List.getElem_cons_drop, List.take_append_drop]]
   rw [List.map_append, List.map_cons]
  have e2 : gsR (hs.set j x') = gsR (hs.take j) ++ x'.g :: gsR (hs.drop (j + 1)) := by
   unfold gsR
   rw [List.set_eq_take_append_cons_drop, if_pos hi, List.map_append, List.map_cons]
  rw [e1, e2]
  refine setH_spl (fun z hz => ?_) (by rw [hid]; exact of_decide_eq_true h2)
  obtain ⟨y, hy, rfl⟩ := List.mem_map.1 hz
  obtain ⟨m, hm, rfl⟩ := List.getElem_of_mem hy
  rw [List.length_take] at hm
  rw [List.getElem_take, hid]
  have := h3 m (by omega)
  simpa using this
theorem SRK.set {x : SR} {s : SG8} (h : SRK x s) {id : Int} {i : Nat} (hi : i < x.hs.length) (hf : fdR x.hs id = (i : Nat)) {x' : HR} (hid : x'.g.id = id) (hok : hrOK x') {H' : RowS} (hr : rowOK 5 H' (x.hs.set i x').length ((x.hs.set i x').flatMap hrC)) : SRK { x with hs := x.hs.set i x', H := H' } ⟨setH s.hs x'.g, s.ref⟩ where
 hs := by rw [← h.hs]; exact (setH_at hi hf x' hid).1.symm
 row := hr
 ok := fun y hy => (List.mem_or_eq_of_mem_set hy).elim (h.ok y) (fun e => by rw [e]; exact hok)
 rf := h.rf
open Go.RowKit Go.PK
def titL : List ByteArray := [⟨#[84, 111, 109, 32, 83, 97, 119, 121, 101, 114]⟩, ⟨#[79, 108, 100, 32, 115, 111, 110, 103, 115]⟩, ⟨#[65, 32, 98, 111, 111, 107, 32, 111, 102, 32, 109, 117, 115, 105, 99]⟩, ⟨#[]⟩, ⟨#[83, 79, 78, 71, 83, 32, 111, 102, 32, 84, 111, 109]⟩]
def titN (n : Int) : ByteArray := titL.getD (n % 5).toNat ⟨#[]⟩
open Go.RowKit Go.PK
open Go.RowKit Go.PK
open Go.RowKit Go.PK
open Go.RowKit Go.PK
open Go.RowKit Go.PK
theorem c_ex (w : World) :
  Calls Tryz.prog 38 #[] w fun e w' => ∃ R', e = .returned (rowV R' 6) ∧ rowOK 6 R' 6 (fdsC exF) ∧ Mem w' (rowO 28 R') [(w, fun _ => True)] := by
 refine enter (vs := []) Tryz.func38 rfl Tryz.ntmps38 rfl ?_
 refine Zs (Zr ?_)
 refine Xa ?_
 refine Ze (Zt (Zs (Zr ?_)))
 refine Xv (v := Value.agg ((⟨1, 1, 1, 1, 0, T8a⟩ : FD)).cells.toArray) rfl (v_buildL (cs := ((⟨1, 1, 1, 1, 0, T8a⟩ : FD)).cells) (places := [(0, 1), (1, 1), (2, 1), (3, 1), (4, 1), (5, 1)]) u28 zr28 Zk rfl rfl) ?_
 refine Xv (v := Value.agg ((⟨1, 2, 1, 2, 0, T8b⟩ : FD)).cells.toArray) rfl (v_buildL (cs := ((⟨1, 2, 1, 2, 0, T8b⟩ : FD)).cells) (places := [(0, 1), (1, 1), (2, 1), (3, 1), (4, 1), (5, 1)]) u28 zr28 Zk rfl rfl) ?_
 refine Xv (v := Value.agg ((⟨1, 3, 3, 2, 0, T8c⟩ : FD)).cells.toArray) rfl (v_buildL (cs := ((⟨1, 3, 3, 2, 0, T8c⟩ : FD)).cells) (places := [(0, 1), (1, 1), (2, 1), (3, 1), (4, 1), (5, 1)]) u28 zr28 Zk rfl rfl) ?_
 refine Xv (v := Value.agg ((⟨1, 4, 4, 1, 2, ⟨#[]⟩⟩ : FD)).cells.toArray) rfl (v_buildL (cs := ((⟨1, 4, 4, 1, 2, ⟨#[]⟩⟩ : FD)).cells) (places := [(0, 1), (1, 1), (2, 1), (3, 1), (4, 1), (5, 1)]) u28 zr28 Zk rfl rfl) ?_
 refine Xv (v := Value.agg ((⟨1, 5, 1, 3, 0, T8d⟩ : FD)).cells.toArray) rfl (v_buildL (cs := ((⟨1, 5, 1, 3, 0, T8d⟩ : FD)).cells) (places := [(0, 1), (1, 1), (2, 1), (3, 1), (4, 1), (5, 1)]) u28 zr28 Zk rfl rfl) ?_
 refine Xv (v := Value.agg ((⟨1, 6, 5, 2, 3, T8e⟩ : FD)).cells.toArray) rfl (v_buildL (cs := ((⟨1, 6, 5, 2, 3, T8e⟩ : FD)).cells) (places := [(0, 1), (1, 1), (2, 1), (3, 1), (4, 1), (5, 1)]) u28 zr28 Zk rfl rfl) ?_
 refine x_buildSliceL (cs := fdsC exF) rfl rfl rfl u24 sz28 zr28 rfl rfl Zk ?_
 intro p7
 refine Xa ?_
 refine Ze (Zt (w_ret ?_))
 exact ret1 rfl rfl (fun w' hm => ⟨some (p7, fdsC exF, 6), rfl, ⟨rfl, (by show 6 ≤ 6; decide), (by show 6 ≤ maxLen; simp only [maxLen]; omega), rfl, rfl⟩, hm⟩)
theorem c_taken {R : RowS} {l : List FD} (w : World) (hR : PK.rowR 28 6 FD.cells R l w) (hlen : l.length ≤ 100000) (hin : ∀ f ∈ l, inFD f) (hL : LD w) :
  Calls Tryz.prog 24 #[rowV R l.length] w fun e w' => ∃ x : FM8, e = .returned (Pt x.pf) ∧ FOK x (takeAll l) ∧ Mem w' (FO x (takeAll l)) [(w, fun _ => True)] := by
 refine enter (vs := [rowV R l.length]) Tryz.func24 rfl Tryz.ntmps24 rfl ?_
 refine Zs (Zr ?_)
 refine Xa ?_
 refine Ze (Zt (Zs (Zr ?_)))
 refine x_own (τ := FM8) (fun x => Pt x.pf) (fun x => FOK x [] ∧ x.now = none) (fun x => FO x []) rfl rfl rfl Tryz.func16 Zk rfl (fun w1 hw1 => (k_New w1).mono fun e w2 ⟨x, h1, h2, h3, h4⟩ => ⟨x, h1, h4.base (by simp), ⟨h2, h3⟩, hw1.join h4⟩) ?_
 rintro x0 ⟨hx0, hn0⟩
 refine Xa ?_
 refine Ze (Zt (Zs (Zs (Zr ?_))))
 refine Xa ?_
 refine Ze (Zt (w_block ?_))
 refine w_loop (σ := Nat × FM8) (fun z => z.1 ≤ l.length ∧ FOK z.2 (takeAll (l.take z.1))) (fun z => [(0, rowV R l.length), (3, Pt z.2.pf), (4, Vi (z.1 : Nat))]) (fun z => FO z.2 (takeAll (l.take z.1)) ++ []) (fun z => [(w, fun _ => True)]) (fun z => l.length - z.1) ((0, x0)) (⟨Nat.zero_le _, hx0⟩) (l_start Zu (fun w1 h => h.to (by simp; rfl))) ?_
 rintro ⟨k, x⟩ ⟨hk, hx⟩
 refine w_state ([(0, rowV R l.length), (3, Pt x.pf), (4, Vi (k : Nat))]) (FO x (takeAll (l.take k)) ++ []) ([(w, fun _ => True)]) ?_
 dsimp only at hk hx
 refine Zs (Zs (Zr ?_))
 refine Xm ?_
 refine Xm ?_
 refine Xv (v := Vi (l.length : Nat)) rfl (v_len_slice u24 rfl) ?_
 refine Xb rfl (v_lss rfl rfl) fun b9 hb9 => ?_
 refine Ze (Zt ?_)
 refine w_cond rfl (fun hc9 => ?_) fun hc9 => ?_
 ·simp only [hb9, Qz, ne_eq] at hc9
  have hkl : k < l.length := by omega
  obtain ⟨gF, csF, cpF, hRg, hcpF, hclF⟩ := hR.cells (c := FD.cells) (m := 6) (fun _ => rfl) (by decide) hkl
  refine w_skip (Zt (Zs (w_block (Zr ?_))))
  refine Xm ?_
  refine Xm ?_
  refine Xm ?_
  refine Xv rfl (v_indexAddr u24 sz28 (congrArg (fun R => some (rowV R l.length)) hRg) rfl (hkl) rfl) ?_
  refine Xv rfl (v_loadN (vs := l[k].cells) u28 rfl sz28 rfl (fun i hi => at_ro (.head _) trivial (by rw [Nat.zero_add]; exact (hclF i hi).trans (List.getElem?_eq_getElem hi)))) ?_
  refine x_turn (τ := FM8) (fst := #[]) (cap := #[]) (v := Vi (takeF (takeAll (l.take k)) l[k]).1) (fun x' => FOK x' (takeF (takeAll (l.take k)) l[k]).2 ∧ x'.pf = (x).pf) (fun x' => FO x' (takeF (takeAll (l.take k)) l[k]).2 ++ []) rfl rfl rfl Tryz.func17 Zk rfl (fun w1 hw1 => by
   simp only [Array.empty_append, Array.append_empty]
   exact k_Take (L := []) hx (hin _ (List.getElem_mem hkl)) (.head _) hL (hw1.to (by simp))) ?_
  rintro x9 ⟨hx9, hp9⟩
  refine Ze (b_norm (Zt (Zr ?_)))
  refine Xm ?_
  refine Xv rfl (v_addi rfl rfl rfl Zo) ?_
  refine Xa ?_
  refine Ze ?_
  exact l_norm (k + 1, x9) ⟨hkl, by dsimp only; rw [List.take_succ_eq_append_getElem hkl, takeAll_snoc]; exact hx9⟩ (by simp only; omega) (by dsimp only; rw [hp9]; repeat (first | exact Sub.nil | refine Sub.cons rfl ?_)) (fun w1 h => h.to (by dsimp only; rw [List.take_succ_eq_append_getElem hkl, takeAll_snoc]))
 simp only [hb9, Qz, ne_eq] at hc9
 obtain rfl : k = l.length := by omega
 rw [List.take_of_length_le (Nat.le_refl _)] at hx
 refine w_exit ?_
 refine t_exit ?_
 refine t_exit ?_
 refine b_hit ?_
 refine Zt (Zs (Zr ?_))
 refine Xm ?_
 refine Xa ?_
 refine Ze (Zt (w_ret ?_))
 exact ret1 rfl rfl (fun w' hm => ⟨x, rfl, hx, by rw [List.take_of_length_le (Nat.le_refl _), List.append_nil] at hm; exact hm⟩)
open Go.RowKit Go.PK
def othA (o id : Int) (b : Bool) : Int := if b = true ∧ (o = 0 ∨ id < o) then id else o
open Go.RowKit Go.PK
open Go.RowKit Go.PK
open Go.RowKit Go.PK
open Go.RowKit Go.PK
attribute [local irreducible] WX
theorem eqSB (w : World) (a c : Sb) : (Op.equalIn 10000 67 (.agg (sbC a).toArray) (.agg (sbC c).toArray)).run Tryz.prog w = .ok (decide (a = c)) w := by
 have hf : (Tryz.prog.fieldsOf 67).toList = [⟨ "Code", 5, 0, false, "", "", 0⟩, ⟨ "Text", 9, 1, false, "", "", 8⟩] := by kernel_rfl
 rw [run_equalIn_struct w 9999 67 _ _ Zk Zk, hf]
 simp only [Op.eqFields, part, sbC]
 obtain ⟨a1, a2⟩ := a
 obtain ⟨b1, b2⟩ := c
 simp [run_isAgg u5, run_isAgg u9, aggT, run_equalIn_int w 9998 5 .u8 .u8 _ _ u5, run_equalIn_string w 9998 9 _ _ u9, toList_eq, Sb.mk.injEq]
 have hu : ((a1.toNat : Int) = (b1.toNat : Int)) ↔ a1 = b1 := by rw [Int.ofNat_inj]; exact UInt8.toNat_inj
 by_cases h1 : a1 = b1 <;> by_cases h2 : a2 = b2 <;> simp [h1, h2, hu]
theorem ex_in : ∀ f ∈ exF, inFD f := by
 intro f hf
 simp only [exF, List.mem_cons, List.not_mem_nil, or_false] at hf
 rcases hf with rfl | rfl | rfl | rfl | rfl | rfl <;> (unfold inFD in64; decide +kernel)
theorem ex7_in : inFD ex7 := by unfold inFD in64; decide +kernel
theorem hs8_id : ∀ h ∈ (stF exF).hs, h.id < 1000000000000000000 := by
 rw [stF_of ex_st]
 intro h hh
 simp only [hs8, List.mem_cons, List.not_mem_nil, or_false] at hh
 rcases hh with rfl | rfl | rfl <;> (dsimp only; omega)
theorem exG_ok : ∀ f ∈ exG, smFl f ∧ okFl f ∧ ∀ s ∈ f.subs, s.code = 48 → s.text.size ≤ 18 := by
 intro f hf
 simp only [exG, List.mem_cons, List.not_mem_nil, or_false] at hf
 rcases hf with rfl | rfl <;> refine ⟨⟨by decide, by decide⟩, ⟨⟨?_, ?_, ?_⟩, ?_⟩, by decide⟩ <;> (try unfold okS) <;> (first | decide +kernel | (intro s hs; rw [List.mem_singleton.1 hs]; decide +kernel))
set_option maxHeartbeats 400000 in
theorem c_sanity (w : World) (hL : LD w) :
  Calls Tryz.prog 14 #[] w fun e w' => e = .returned (.bool (true)) ∧ Later w w' := by
 refine enter (vs := []) Tryz.func14 rfl Tryz.ntmps14 rfl ?_
 refine Zs (Zr ?_)
 refine Xa ?_
 refine Ze (Zt (Zs (Zr ?_)))
 refine x_own (τ := RowS) (fun R => rowV R 6) (fun R => rowOK 6 R exF.length (fdsC exF)) (fun R => rowO 28 R) rfl rfl rfl Tryz.func38 Zk rfl (fun w1 hw1 => (c_ex w1).mono fun e w2 ⟨R, h1, h2, h3⟩ => ⟨R, h1, h3.base (by simp), h2, hw1.join h3⟩) fun R0 hR0 => ?_
 refine x_own (τ := FM8) (fun x => Pt x.pf) (fun x => FOK x exF) (fun x => FO x exF) rfl rfl rfl Tryz.func24 Zk rfl (fun w1 hw1 => by
  have h := c_taken (l := exF) w1 (hw1.rowR hR0 (fun q hq => hq)) (by show 6 ≤ 100000; omega) ex_in (hL.later (hw1.base (by simp)))
  rw [ex_all] at h
  exact h.mono fun e w2 ⟨x, h1, h2, h3⟩ => ⟨x, h1, h3.base (by simp), h2, hw1.join h3⟩) ?_
 intro x0 hx0
 refine x_mem (fun _ h => h.to (List.append_nil _).symm) ?_
 refine Xa ?_
 refine Ze (Zt (Zs (Zr ?_)))
 refine Xm ?_
 refine x_turn (τ := FM8) (fst := #[]) (cap := #[]) (v := .tuple #[Vi 1, .bool true]) (fun y => FOK y exF ∧ y.pf = x0.pf) (fun y => FO y exF ++ []) rfl rfl rfl Tryz.func19 Zk rfl (fun w1 hw1 => by
  simp only [Array.empty_append, Array.append_empty]
  have h := k_Find (t := ⟨#[67, 76, 69, 77, 69, 78, 83, 44, 32, 83, 97, 109, 117, 101, 108]⟩) (L := []) hx0 (by decide +kernel) (.head _) hL (hw1.to (by simp))
  rw [ex_find'] at h
  exact h) ?_
 rintro x1 ⟨hx1, px1⟩
 refine Xm ?_
 refine Xe ?_
 refine Xb rfl (v_extract rfl rfl) fun b18 hb18 => ?_
 obtain rfl : b18 = true := hb18
 refine Xa ?_
 refine Xa ?_
 refine Ze (Zt (Zs (Zr ?_)))
 refine Xm ?_
 refine x_turn (τ := FM8) (fst := #[]) (cap := #[]) (v := .tuple #[Vi 2, .bool true]) (fun y => FOK y exF ∧ y.pf = x0.pf) (fun y => FO y exF ++ []) rfl rfl rfl Tryz.func18 Zk rfl (fun w1 hw1 => by
  simp only [Array.empty_append, Array.append_empty]
  have h := k_Resolve (h := 1) (t := ⟨#[84, 111, 109, 32, 83, 97, 119, 121, 101, 114]⟩) (L := []) hx1 (by unfold in64; omega) (by decide +kernel) (.head _) hL (hw1.to (by simp))
  rw [ex_r1'] at h
  rw [px1] at h
  exact h) ?_
 rintro x2 ⟨hx2, px2⟩
 refine Xm ?_
 refine Xe ?_
 refine Xb rfl (v_extract rfl rfl) fun b23 hb23 => ?_
 obtain rfl : b23 = true := hb23
 refine Xa ?_
 refine Xa ?_
 refine Ze (Zt (Zs (Zr ?_)))
 refine Xm ?_
 refine x_turn (τ := FM8) (fst := #[]) (cap := #[]) (v := .tuple #[Vi 3, .bool true]) (fun y => FOK y exF ∧ y.pf = x0.pf) (fun y => FO y exF ++ []) rfl rfl rfl Tryz.func18 Zk rfl (fun w1 hw1 => by
  simp only [Array.empty_append, Array.append_empty]
  have h := k_Resolve (h := 1) (t := ⟨#[79, 108, 100, 32, 115, 111, 110, 103, 115]⟩) (L := []) hx2 (by unfold in64; omega) (by decide +kernel) (.head _) hL (hw1.to (by simp))
  rw [ex_r2'] at h
  rw [px2] at h
  exact h) ?_
 rintro x3 ⟨hx3, px3⟩
 refine Xm ?_
 refine Xe ?_
 refine Xb rfl (v_extract rfl rfl) fun b28 hb28 => ?_
 obtain rfl : b28 = true := hb28
 refine Xa ?_
 refine Xa ?_
 refine Ze (Zt (Zs (Zr ?_)))
 refine Xm ?_
 refine Xv (v := Value.agg ((sbC ⟨97, ⟨#[116, 119, 97, 105, 110, 32, 109]⟩⟩)).toArray) rfl (v_buildL (cs := (sbC ⟨97, ⟨#[116, 119, 97, 105, 110, 32, 109]⟩⟩)) (places := [(0, 1), (1, 1)]) u67 zr67 Zk rfl rfl) ?_
 refine x_buildSliceL (cs := (sbC ⟨97, ⟨#[116, 119, 97, 105, 110, 32, 109]⟩⟩)) rfl rfl rfl u60 sz67 zr67 rfl rfl rfl ?_
 intro p31
 refine Xv (v := Value.agg ([Value.string ⟨#[55, 48, 48]⟩, .string ⟨#[49, 32]⟩, .string ⟨#[]⟩, Value.slice (some ⟨p31, 0, none⟩) 1 1]).toArray) rfl (v_buildL (cs := [Value.string ⟨#[55, 48, 48]⟩, .string ⟨#[49, 32]⟩, .string ⟨#[]⟩, Value.slice (some ⟨p31, 0, none⟩) 1 1]) (places := [(0, 1), (1, 1), (2, 1), (3, 1)]) u62 zr62 Zk rfl rfl) ?_
 refine Xv (v := Value.agg ((sbC ⟨97, ⟨#[84, 111, 109, 32, 83, 97, 119, 121, 101, 114]⟩⟩)).toArray) rfl (v_buildL (cs := (sbC ⟨97, ⟨#[84, 111, 109, 32, 83, 97, 119, 121, 101, 114]⟩⟩)) (places := [(0, 1), (1, 1)]) u67 zr67 Zk rfl rfl) ?_
 refine x_buildSliceL (cs := (sbC ⟨97, ⟨#[84, 111, 109, 32, 83, 97, 119, 121, 101, 114]⟩⟩)) rfl rfl rfl u60 sz67 zr67 rfl rfl rfl ?_
 intro p34
 refine Xv (v := Value.agg ([Value.string ⟨#[50, 52, 53]⟩, .string ⟨#[49, 48]⟩, .string ⟨#[]⟩, Value.slice (some ⟨p34, 0, none⟩) 1 1]).toArray) rfl (v_buildL (cs := [Value.string ⟨#[50, 52, 53]⟩, .string ⟨#[49, 48]⟩, .string ⟨#[]⟩, Value.slice (some ⟨p34, 0, none⟩) 1 1]) (places := [(0, 1), (1, 1), (2, 1), (3, 1)]) u62 zr62 Zk rfl rfl) ?_
 refine x_buildSliceL (cs := ([Value.string ⟨#[55, 48, 48]⟩, .string ⟨#[49, 32]⟩, .string ⟨#[]⟩, Value.slice (some ⟨p31, 0, none⟩) 1 1]) ++ [Value.string ⟨#[50, 52, 53]⟩, .string ⟨#[49, 48]⟩, .string ⟨#[]⟩, Value.slice (some ⟨p34, 0, none⟩) 1 1]) rfl rfl rfl u49 sz62 zr62 rfl rfl rfl ?_
 intro p36
 refine Xv (v := Value.agg ([Value.int .u8 0, Value.int .u8 0, Value.slice (some ⟨p36, 0, none⟩) 2 2]).toArray) rfl (v_buildL (cs := [Value.int .u8 0, Value.int .u8 0, Value.slice (some ⟨p36, 0, none⟩) 2 2]) (places := [(0, 1), (1, 1), (2, 1)]) u51 zr51 Zk rfl rfl) ?_
 refine x_fix (FO x3 exF ++ []) ((((List.sublist_cons_self _ _).trans (List.sublist_cons_self _ _)).trans (List.sublist_cons_self _ _))) fun w5 hw5 => ?_
 have hno5 : ∀ p, p ∈ [(Bk p36 (([Value.string ⟨#[55, 48, 48]⟩, .string ⟨#[49, 32]⟩, .string ⟨#[]⟩, Value.slice (some ⟨p31, 0, none⟩) 1 1]) ++ [Value.string ⟨#[50, 52, 53]⟩, .string ⟨#[49, 48]⟩, .string ⟨#[]⟩, Value.slice (some ⟨p34, 0, none⟩) 1 1]) 62), (Bk p34 (sbC ⟨97, ⟨#[84, 111, 109, 32, 83, 97, 119, 121, 101, 114]⟩⟩) 67), (Bk p31 (sbC ⟨97, ⟨#[116, 119, 97, 105, 110, 32, 109]⟩⟩) 67)] → notOwn (FO x3 exF ++ []) p.1 := fun p hp => hw5.notIn (l1 := [(Bk p36 (([Value.string ⟨#[55, 48, 48]⟩, .string ⟨#[49, 32]⟩, .string ⟨#[]⟩, Value.slice (some ⟨p31, 0, none⟩) 1 1]) ++ [Value.string ⟨#[50, 52, 53]⟩, .string ⟨#[49, 48]⟩, .string ⟨#[]⟩, Value.slice (some ⟨p34, 0, none⟩) 1 1]) 62), (Bk p34 (sbC ⟨97, ⟨#[84, 111, 109, 32, 83, 97, 119, 121, 101, 114]⟩⟩) 67), (Bk p31 (sbC ⟨97, ⟨#[116, 119, 97, 105, 110, 32, 109]⟩⟩) 67)]) (.refl _) hp
 have hg5 : sliceRd tyFl (notOwn (FO x3 exF ++ [])) w5 (Value.slice (some ⟨p36, 0, none⟩) 2 2) exG := by
  have h := fe_rd (TF := 62) (T := 67) (es := [(⟨exG[0], Value.slice (some ⟨p31, 0, none⟩) 1 1, some (p31, (sbC ⟨97, ⟨#[116, 119, 97, 105, 110, 32, 109]⟩⟩), 1)⟩ : FE), (⟨exG[1], Value.slice (some ⟨p34, 0, none⟩) 1 1, some (p34, (sbC ⟨97, ⟨#[84, 111, 109, 32, 83, 97, 119, 121, 101, 114]⟩⟩), 1)⟩ : FE)]) (C := some (p36, ([Value.string ⟨#[55, 48, 48]⟩, .string ⟨#[49, 32]⟩, .string ⟨#[]⟩, Value.slice (some ⟨p31, 0, none⟩) 1 1]) ++ [Value.string ⟨#[50, 52, 53]⟩, .string ⟨#[49, 48]⟩, .string ⟨#[]⟩, Value.slice (some ⟨p34, 0, none⟩) 1 1], 2)) (D := fun _ => True) (D' := notOwn (FO x3 exF ++ [])) hw5 (.head _) ⟨rfl, (by show 2 ≤ 2; decide), (by show 2 ≤ maxLen; simp only [maxLen]; omega), rfl, rfl⟩ (fun e he => by
    rcases List.mem_cons.1 he with rfl | he
    ·exact ⟨.inr ⟨rfl, rfl, (by show 1 ≤ 1; decide), (by show 1 ≤ maxLen; simp only [maxLen]; omega), rfl, rfl⟩, (exG_ok _ (.head _)).2.1⟩
    rw [List.mem_singleton.1 he]
    exact ⟨.inr ⟨rfl, rfl, (by show 1 ≤ 1; decide), (by show 1 ≤ maxLen; simp only [maxLen]; omega), rfl, rfl⟩, (exG_ok _ (.tail _ (.head _))).2.1⟩) (fun p hp => by rw [List.mem_singleton.1 hp]; exact .head _)
   (fun e he p hp => by
    rcases List.mem_cons.1 he with rfl | he
    ·rw [List.mem_singleton.1 hp]; exact .tail _ (.tail _ (.head _))
    rw [List.mem_singleton.1 he] at hp; rw [List.mem_singleton.1 hp]; exact .tail _ (.head _))
   (fun k hk hlt p hp he => by have h9 := hw5.apart p (.tail _ (.tail _ (.tail _ hp))) _ (.head _) trivial; simp only at h9; omega)
   (fun e he p hp => by
    rcases List.mem_cons.1 he with rfl | he
    ·exact hno5 p (by rw [List.mem_singleton.1 hp]; exact .tail _ (.tail _ (.head _)))
    rw [List.mem_singleton.1 he] at hp; exact hno5 p (by rw [List.mem_singleton.1 hp]; exact .tail _ (.head _)))
   (fun p hp => hno5 p (by rw [List.mem_singleton.1 hp]; exact .head _))
  exact h
 refine x_turn_n (τ := FM8) (fun y v wA wB => (FOK y exF ∧ y.pf = x0.pf) ∧ ∃ v', v = .agg #[.int .u8 0, .int .u8 0, v'] ∧ sliceRd tyFl (notOwn (FO y exF ++ [])) wB v' exG2) (fun y => FO y exF ++ []) rfl rfl Tryz.func28 Zk rfl (fun w1 hw1 => by
  have h := k_Rewrite (L := []) (kd := 0) (lv := 0) hx3 hs8_id (.head _) hg5 (fun h => by cases h) (by show 2 ≤ 100000; omega) exG_ok (.tail _ (.head _)) hL hw1
  rw [px3] at h
  refine h.mono fun e w2 ⟨y, v', h1, ⟨h2, h3⟩, h4, h5⟩ => ⟨_, h1, y, ⟨⟨h2, h3⟩, v', rfl, ?_⟩, h5⟩
  rw [stF_of ex_st, ex_rew] at h4
  exact h4) ?_
 rintro v38 x4 w6 w7 hw6 ⟨⟨hx4, px4⟩, v', rfl, hrd⟩ hw7
 obtain ⟨A2, c2, rfl, hl2c, hmx2, _⟩ := id hrd
 obtain ⟨b2, o2, vs2, rfl, hD2, hc2, hs2, _⟩ := fl8_at hrd (k := 0) (by decide)
 obtain ⟨A3, c3, rfl, hl3c, hmx3, _⟩ := id hs2
 obtain ⟨b3, o3, rfl, hD3, hc3⟩ := sb8_at hs2 (k := 0) (by decide)
 obtain ⟨b4, o4, e4, _, hc4⟩ := sb8_at hs2 (k := 1) (by decide)
 injection e4 with e4
 injection e4 with e5 e6
 subst e5 e6
 refine x_alloc rfl rfl rfl zr51 ?_
 intro p8
 refine x_store0 [] rfl rfl rfl rfl sz51 rfl rfl ?_
 refine Ze (Zt (Zs (Zr ?_)))
 refine Xm ?_
 refine Xv (v := Value.agg (ex7).cells.toArray) rfl (v_buildL (cs := (ex7).cells) (places := [(0, 1), (1, 1), (2, 1), (3, 1), (4, 1), (5, 1)]) u28 zr28 Zk rfl rfl) ?_
 refine x_mem (own' := FO x4 exF ++ [(Bk p8 [Value.int .u8 0, Value.int .u8 0, Value.slice (some ⟨b2, o2, none⟩) exG2.length c2] 51)]) (fun _ h => (h.perm (List.perm_append_comm (l₁ := [(Bk p8 [Value.int .u8 0, Value.int .u8 0, Value.slice (some ⟨b2, o2, none⟩) exG2.length c2] 51)]) (l₂ := FO x4 exF ++ []))).to (by rw [List.append_nil])) ?_
 refine x_turn (τ := FM8) (fst := #[]) (cap := #[]) (v := Vi 0) (fun y => FOK y (exF ++ [ex7]) ∧ y.pf = x0.pf) (fun y => FO y (exF ++ [ex7]) ++ [(Bk p8 [Value.int .u8 0, Value.int .u8 0, Value.slice (some ⟨b2, o2, none⟩) exG2.length c2] 51)]) rfl rfl rfl Tryz.func17 Zk rfl (fun w1 hw1 => by
  simp only [Array.empty_append, Array.append_empty]
  have h := k_Take (f := ex7) (L := [(Bk p8 [Value.int .u8 0, Value.int .u8 0, Value.slice (some ⟨b2, o2, none⟩) exG2.length c2] 51)]) hx4 ex7_in (.tail _ (.tail _ (.head _))) hL hw1
  rw [ex_take7, px4] at h
  exact h) ?_
 rintro x5 ⟨hx5, px5⟩
 refine Xa ?_
 refine Ze (Zt (Zs (Zr ?_)))
 refine Xm ?_
 refine x_turnV (τ := RowS × FM8) (fst := #[]) (cap := #[]) (fun z => rowV z.1 1) (fun z => rowOK 6 z.1 [ex7].length (fdsC [ex7]) ∧ FOK z.2 (exF ++ [ex7])) (fun z => FO z.2 (exF ++ [ex7]) ++ (rowO 28 z.1 ++ [(Bk p8 [Value.int .u8 0, Value.int .u8 0, Value.slice (some ⟨b2, o2, none⟩) exG2.length c2] 51)])) rfl rfl rfl Tryz.func20 Zk rfl (fun w1 hw1 => by
  simp only [Array.empty_append, Array.append_empty]
  have h := k_Refused (L := [(Bk p8 [Value.int .u8 0, Value.int .u8 0, Value.slice (some ⟨b2, o2, none⟩) exG2.length c2] 51)]) hx5 (.tail _ (.tail _ (.head _))) hL hw1
  rw [show (stF (exF ++ [ex7])).ref = [ex7] from by rw [stF_of ex_st7], px5] at h
  exact h.mono fun e w2 ⟨R, h1, h2, y, ⟨h3, _⟩, h4⟩ => ⟨(R, y), h1, ⟨h2, h3⟩, h4⟩) ?_
 rintro ⟨R7, x6⟩ ⟨hR7, hx6⟩
 obtain ⟨g7, cs7, c7, hRg7, hcp7, hc7⟩ := fd_cell (fs := [ex7]) hR7 (k := 0) (by decide)
 refine Xa ?_
 refine Ze (Zt (Zs (Zs (Zr ?_))))
 refine Xf 2 rfl u51 rfl sz49 ?_
 refine Xl rfl u49 rfl (at_ownL (vs := [Value.int .u8 0, Value.int .u8 0, Value.slice (some ⟨b2, o2, none⟩) exG2.length c2]) (List.mem_append_right _ (List.mem_append_right _ (.head _))) rfl) ?_
 refine Xv (v := Vi (exG2.length : Nat)) rfl (v_len_slice u49 rfl) ?_
 refine Xb rfl (v_neq rfl rfl) fun b47 hb47 => ?_
 obtain rfl : b47 = false := hb47.trans (by decide)
 refine Xm ?_
 refine x_valg rfl rfl rfl rfl rfl (v_fieldAddr (off' := 2) u51 rfl sz49 (by decide) rfl rfl) ?_
 refine x_valg rfl rfl rfl rfl rfl (v_load u49 rfl rfl (at_ownL (vs := [Value.int .u8 0, Value.int .u8 0, Value.slice (some ⟨b2, o2, none⟩) exG2.length c2]) (List.mem_append_right _ (List.mem_append_right _ (.head _))) rfl)) ?_
 refine x_valg rfl rfl rfl rfl rfl (v_indexAddr (j := 0) u49 sz62 rfl rfl (by decide) rfl) ?_
 refine x_valg rfl rfl rfl rfl rfl (v_fieldAddr u62 rfl sz60 (by decide) rfl rfl) ?_
 refine x_valg rfl rfl rfl rfl rfl (v_load u60 rfl rfl (at_ro (.head _) hD2 (v := Value.slice (some ⟨b3, o3, none⟩) exG2[0].subs.length c3) (hc2 3 (by show 3 < 4; decide)))) ?_
 refine x_valg (v := Vi (exG2[0].subs.length : Nat)) rfl rfl rfl rfl rfl (v_len_slice u60 rfl) ?_
 refine x_boolg rfl rfl rfl rfl rfl (v_neq rfl rfl) fun b55 hb55 => ?_
 obtain rfl : b55 = false := hb55.trans (by decide)
 refine Xb rfl (v_or rfl rfl) fun b56 hb56 => ?_
 obtain rfl : b56 = false := hb56
 refine Xm ?_
 refine x_valg rfl rfl rfl rfl rfl (v_move rfl) ?_
 refine x_valg (v := Vi ((1 : Nat) : Int)) rfl rfl rfl rfl rfl (v_len_slice u24 rfl) ?_
 refine x_boolg rfl rfl rfl rfl rfl (v_neq rfl rfl) fun b60 hb60 => ?_
 obtain rfl : b60 = false := hb60.trans (by decide)
 refine Xb rfl (v_or rfl rfl) fun b61 hb61 => ?_
 obtain rfl : b61 = false := hb61
 refine Ze (Zt ?_)
 refine w_cond rfl (fun hc61 => ?_) fun hc61 => ?_
 ·cases hc61
 skip
 refine w_skip (Zt (Zs (Zr ?_)))
 refine Xf 2 rfl u51 rfl sz49 ?_
 refine Xl rfl u49 rfl (at_ownL (vs := [Value.int .u8 0, Value.int .u8 0, Value.slice (some ⟨b2, o2, none⟩) exG2.length c2]) (List.mem_append_right _ (List.mem_append_right _ (.head _))) rfl) ?_
 refine Xv rfl (v_indexAddr (j := 0) u49 sz62 rfl rfl (by decide) rfl) ?_
 refine Xf _ rfl u62 rfl sz60 ?_
 refine Xl rfl u60 rfl (at_ro (.head _) hD2 (v := Value.slice (some ⟨b3, o3, none⟩) exG2[0].subs.length c3) (hc2 3 (by show 3 < 4; decide))) ?_
 refine Xa ?_
 refine Ze (Zt (Zs (Zr ?_)))
 refine Xm ?_
 refine Xm ?_
 refine x_valg rfl rfl rfl rfl rfl (v_move rfl) ?_
 refine Xb rfl (v_and rfl rfl) fun b70 hb70 => ?_
 obtain rfl : b70 = true := hb70
 refine Xm ?_
 refine x_valg rfl rfl rfl rfl rfl (v_move rfl) ?_
 refine Xb rfl (v_and rfl rfl) fun b73 hb73 => ?_
 obtain rfl : b73 = true := hb73
 refine Xm ?_
 refine x_valg rfl rfl rfl rfl rfl (v_move rfl) ?_
 refine x_boolg rfl rfl rfl rfl rfl (v_eql rfl rfl) fun b76 hb76 => ?_
 obtain rfl : b76 = true := hb76.trans (by decide)
 refine Xb rfl (v_and rfl rfl) fun b77 hb77 => ?_
 obtain rfl : b77 = true := hb77
 refine Xm ?_
 refine x_valg rfl rfl rfl rfl rfl (v_move rfl) ?_
 refine x_boolg rfl rfl rfl rfl rfl (v_eql rfl rfl) fun b80 hb80 => ?_
 obtain rfl : b80 = true := hb80.trans (by decide)
 refine Xb rfl (v_and rfl rfl) fun b81 hb81 => ?_
 obtain rfl : b81 = true := hb81
 refine Xm ?_
 refine x_valg rfl rfl rfl rfl rfl (v_move rfl) ?_
 refine x_boolg rfl rfl rfl rfl rfl (v_eql rfl rfl) fun b84 hb84 => ?_
 obtain rfl : b84 = true := hb84.trans (by decide)
 refine Xb rfl (v_and rfl rfl) fun b85 hb85 => ?_
 obtain rfl : b85 = true := hb85
 refine Xm ?_
 refine x_valg rfl rfl rfl rfl rfl (v_move rfl) ?_
 refine x_boolg rfl rfl rfl rfl rfl (v_eql rfl rfl) fun b88 hb88 => ?_
 obtain rfl : b88 = true := hb88.trans (by decide)
 refine Xb rfl (v_and rfl rfl) fun b89 hb89 => ?_
 obtain rfl : b89 = true := hb89
 refine Xm ?_
 refine x_valg rfl rfl rfl rfl rfl (v_move rfl) ?_
 refine x_valg rfl rfl rfl rfl rfl (v_indexAddr (j := 0) u24 sz28 (congrArg (fun R => some (rowV R 1)) hRg7) rfl (by decide) rfl) ?_
 refine x_valg rfl rfl rfl rfl rfl (v_fieldAddr u28 rfl sz3 (by decide) rfl rfl) ?_
 refine x_valg rfl rfl rfl rfl rfl (v_load u3 rfl rfl (at_ownL (vs := cs7) (v := Vi 7) (List.mem_append_right _ (List.mem_append_left _ (by rw [hRg7]; exact .head _))) (hc7 1 (by decide)))) ?_
 refine x_boolg rfl rfl rfl rfl rfl (v_eql rfl rfl) fun b95 hb95 => ?_
 obtain rfl : b95 = true := hb95.trans (by decide)
 refine Xb rfl (v_and rfl rfl) fun b96 hb96 => ?_
 obtain rfl : b96 = true := hb96
 refine Xm ?_
 refine x_valg rfl rfl rfl rfl rfl (v_move rfl) ?_
 refine x_valg rfl rfl rfl rfl rfl (v_indexAddr (j := 0) u60 sz67 rfl rfl (by decide) rfl) ?_
 refine x_valg rfl rfl rfl rfl rfl (v_loadN (vs := sbC (exG2[0].subs[0])) u67 rfl sz67 rfl (fun i hi => at_ro (.head _) hD3 (hc3 i hi))) ?_
 refine x_valg (v := Value.agg (sbC ⟨97, T8b⟩).toArray) rfl rfl rfl rfl rfl (v_buildL (cs := sbC ⟨97, T8b⟩) (places := [(0, 1), (1, 1)]) u67 zr67 Zk rfl rfl) ?_
 refine x_boolg rfl rfl rfl rfl rfl (v_eqA Zk rfl rfl (fun w1 => eqSB w1 (exG2[0].subs[0]) ⟨97, T8b⟩)) fun b102 hb102 => ?_
 obtain rfl : b102 = true := hb102.trans (by decide)
 refine Xb rfl (v_and rfl rfl) fun b103 hb103 => ?_
 obtain rfl : b103 = true := hb103
 refine Xm ?_
 refine x_valg rfl rfl rfl rfl rfl (v_move rfl) ?_
 refine x_valg rfl rfl rfl rfl rfl (v_indexAddr (j := 1) u60 sz67 rfl rfl (by decide) rfl) ?_
 refine x_valg rfl rfl rfl rfl rfl (v_loadN (vs := sbC (exG2[0].subs[1])) u67 rfl sz67 rfl (fun i hi => at_ro (.head _) hD3 (hc4 i hi))) ?_
 refine x_valg (v := Value.agg (sbC ⟨48, ⟨#[50]⟩⟩).toArray) rfl rfl rfl rfl rfl (v_buildL (cs := sbC ⟨48, ⟨#[50]⟩⟩) (places := [(0, 1), (1, 1)]) u67 zr67 Zk rfl rfl) ?_
 refine x_boolg rfl rfl rfl rfl rfl (v_eqA Zk rfl rfl (fun w1 => eqSB w1 (exG2[0].subs[1]) ⟨48, ⟨#[50]⟩⟩)) fun b109 hb109 => ?_
 obtain rfl : b109 = true := hb109.trans (by decide)
 refine Xb rfl (v_and rfl rfl) fun b110 hb110 => ?_
 obtain rfl : b110 = true := hb110
 refine Xa ?_
 refine Ze (Zt (w_ret ?_))
 exact ret1 rfl rfl (fun w' hm => ⟨rfl, hm.base (by simp)⟩)
end Go.Proofs.YtnflcekodobdlaaGreatDoor

namespace Go.Proofs.YtnflcekodobdlaaGreatDoor
open Go.RowKit Go.PK
attribute [local irreducible] WX
def askL : List ByteArray := [⟨#[116, 119, 97, 105, 110, 32, 77, 65, 82, 75]⟩, ⟨#[67, 108, 101, 109, 101, 110, 115]⟩, ⟨#[71, 101, 111, 114, 103, 101, 32, 69, 108, 105, 111, 116]⟩, ⟨#[101, 108, 105, 111, 116, 32, 103, 101, 111, 114, 103, 101]⟩, ⟨#[101, 118, 97, 110, 115]⟩, ⟨#[115, 111, 110, 103, 115]⟩, ⟨#[77, 117, 115, 105, 99]⟩, ⟨#[90, 111, 108, 97, 33]⟩, ⟨#[116, 119, 97, 105, 110]⟩, ⟨#[111, 102]⟩, ⟨#[]⟩, ⟨#[45]⟩]
def MO8 (pm : Nat) (M : RowS) (n : Nat) : List (Nat × Obj) := (Bk pm [rowV M n] 48) :: rowO 28 M
end Go.Proofs.YtnflcekodobdlaaGreatDoor

namespace Go.Proofs.YtnflcekodobdlaaGreatDoor
open Go.RowKit Go.PK
attribute [local irreducible] WX
end Go.Proofs.YtnflcekodobdlaaGreatDoor

namespace Go.Proofs.YtnflcekodobdlaaGreatDoor
open Go.RowKit Go.PK
attribute [local irreducible] WX
end Go.Proofs.YtnflcekodobdlaaGreatDoor

namespace Go.Proofs.YtnflcekodobdlaaGreatDoor
open Go.RowKit Go.PK
attribute [local irreducible] WX
end Go.Proofs.YtnflcekodobdlaaGreatDoor

namespace Go.Proofs.YtnflcekodobdlaaGreatDoor
open Go.RowKit Go.PK
attribute [local irreducible] WX
theorem set_row {cs : List Value} {n : Nat} {v : Value} (h : n < cs.length) : cs.take n ++ [v] ++ cs.drop (n + 1) = cs.set n v := by
 rw [List.set_eq_take_append_cons_drop, if_pos h]; simp
theorem u8_at {D : Nat → Prop} {w : World} {A : Option Addr} {cp : Nat} {xs : List Int} (h : sliceRd (tyK .u8) D w (.slice A xs.length cp) xs) {k : Nat} (hk : k < xs.length) : ∃ b o, A = some ⟨b, o, none⟩ ∧ D b ∧ w.cell? ⟨b, o + k * 1, none⟩ = some (.int .u8 xs[k]) ∧ 0 ≤ xs[k] ∧ xs[k] ≤ 255 := by
 obtain ⟨A', c', hv, h1, h2, h3⟩ := h
 injection hv with e1 e2 e3
 subst e1 e3
 obtain ⟨b, o, e, hD, _, hc⟩ := h3 (by omega)
 obtain ⟨cs, k1, k2, k3⟩ := hc k hk
 subst k2
 exact ⟨b, o, e, hD, k1 0 (by show 0 < 1; decide), k3⟩
end Go.Proofs.YtnflcekodobdlaaGreatDoor

namespace Go.Proofs.YtnflcekodobdlaaGreatDoor
open Go.RowKit Go.PK
attribute [local irreducible] WX
end Go.Proofs.YtnflcekodobdlaaGreatDoor

namespace Go.Proofs.YtnflcekodobdlaaGreatDoor
open Go.RowKit Go.PK
attribute [local irreducible] WX
structure RecW (fs : List Fl) (es : List FE) (C : RowS) : Prop where
  fs : es.map (·.f) = fs
  row : rowOK 4 C es.length (es.flatMap feC)
  ok : ∀ e ∈ es, e.v = rowV e.S e.f.subs.length ∧ rowOK 2 e.S e.f.subs.length (e.f.subs.flatMap sbC)
end Go.Proofs.YtnflcekodobdlaaGreatDoor

namespace Go.Proofs.YtnflcekodobdlaaGreatDoor
open Go.RowKit Go.PK
attribute [local irreducible] WX
end Go.Proofs.YtnflcekodobdlaaGreatDoor

namespace Go.Proofs.YtnflcekodobdlaaGreatDoor
open Go.RowKit Go.PK
attribute [local irreducible] WX
end Go.Proofs.YtnflcekodobdlaaGreatDoor

namespace Go.Proofs.YtnflcekodobdlaaGreatDoor
open Go.RowKit Go.PK
attribute [local irreducible] WX
end Go.Proofs.YtnflcekodobdlaaGreatDoor

namespace Go.Proofs.YtnflcekodobdlaaGreatDoor
open Go.RowKit Go.PK
attribute [local irreducible] WX
end Go.Proofs.YtnflcekodobdlaaGreatDoor

namespace Go.Proofs.YtnflcekodobdlaaGreatDoor
open Go.RowKit Go.PK
attribute [local irreducible] WX
end Go.Proofs.YtnflcekodobdlaaGreatDoor

namespace Go.Proofs.YtnflcekodobdlaaGreatDoor
open Go.RowKit Go.PK
attribute [local irreducible] WX
def titlesL : List ByteArray := ⟨#[]⟩ :: (namesR ++ [⟨#[84, 111, 109, 32, 83, 97, 119, 121, 101, 114]⟩, ⟨#[79, 108, 100, 32, 115, 111, 110, 103, 115]⟩, ⟨#[65, 32, 98, 111, 111, 107, 32, 111, 102, 32, 109, 117, 115, 105, 99]⟩, ⟨#[83, 79, 78, 71, 83, 32, 111, 102, 32, 84, 111, 109]⟩])
end Go.Proofs.YtnflcekodobdlaaGreatDoor

namespace Go.Proofs.YtnflcekodobdlaaGreatDoor
open Go.RowKit Go.PK
attribute [local irreducible] WX
end Go.Proofs.YtnflcekodobdlaaGreatDoor

namespace Go.Proofs.YtnflcekodobdlaaGreatDoor
open Go.RowKit Go.PK
attribute [local irreducible] WX
end Go.Proofs.YtnflcekodobdlaaGreatDoor

namespace Go.Proofs.YtnflcekodobdlaaGreatDoor
open Go.RowKit Go.PK
attribute [local irreducible] WX
end Go.Proofs.YtnflcekodobdlaaGreatDoor

namespace Go.Proofs.YtnflcekodobdlaaGreatDoor
open Go.RowKit Go.PK
attribute [local irreducible] WX
theorem wrap_u8 {n : Nat} (h : n ≤ 255) : IntKind.wrap .u8 (n : Int) = (n : Int) := by
 rw [IntKind.wrap_u8]
 omega
set_option maxHeartbeats 4000000 in
theorem lawSplits {AO : Option Addr} {cO : Nat} {od : List Int} {AT : Option Addr} {cT : Nat} {tl : List Int} (w : World) (ho : sliceRd (tyK .u8) (fun _ => True) w (.slice AO od.length cO) od) (htl : sliceRd (tyK .u8) (fun _ => True) w (.slice AT tl.length cT) tl) (hL : LD w) :
  Calls Tryz.prog 4 #[.slice AO od.length cO, .slice AT tl.length cT] w fun e w' => e = .returned (.bool (true)) ∧ Later w w' := by
 have hodl : od.length ≤ maxLen := by obtain ⟨_, _, hv, h1, h2, _⟩ := id ho; first | exact h2 | omega
 have htll : tl.length ≤ maxLen := by obtain ⟨_, _, hv, h1, h2, _⟩ := id htl; first | exact h2 | omega
 simp only [maxLen] at hodl htll
 refine enter (vs := [.slice AO od.length cO, .slice AT tl.length cT]) Tryz.func4 rfl Tryz.ntmps4 rfl ?_
 refine Zs (Zr ?_)
 refine Xa ?_
 refine Ze (Zt (Zs (Zr ?_)))
 refine x_callb rfl rfl rfl Tryz.func14 Zk rfl (fun w1 hw1 => c_sanity w1 (hL.later (hw1.base (by simp)))) fun b17 hb17 => ?_
 obtain rfl : b17 = true := hb17
 refine Xa ?_
 refine Ze (Zt (Zs (Zr ?_)))
 refine x_buildSliceL (cs := W6.map Value.string) rfl rfl rfl u38 sz9 zr9 rfl rfl Zk ?_
 intro p18
 refine Xa ?_
 refine Ze (Zt (Zs (Zr ?_)))
 refine x_own (τ := FM8) (fun x => Pt x.pf) (fun x => FOK x []) (fun x => FO x [] ++ [(Bk p18 (W6.map Value.string) 9)]) rfl rfl rfl Tryz.func16 Zk rfl (fun w1 hw1 => (k_New w1).mono fun e w2 ⟨x, h1, h2, h3, h4⟩ => ⟨x, h1, h4.base (by simp), h2, Mem.join2 hw1 h4⟩) fun x0 hx0 => ?_
 have px0 : x0.pf = x0.pf := rfl
 refine Xa ?_
 refine Ze (Zt (Zs (Zr ?_)))
 refine Xm ?_
 refine Xv (v := Value.agg (spX0).cells.toArray) rfl (v_buildL (cs := (spX0).cells) (places := [(0, 1), (1, 1), (2, 1), (3, 1), (4, 1), (5, 1)]) u28 zr28 Zk rfl rfl) ?_
 refine x_turn (τ := FM8) (fst := #[]) (cap := #[]) (v := Vi 0) (fun y => FOK y (spF []) ∧ y.pf = x0.pf) (fun y => FO y (spF []) ++ [(Bk p18 (W6.map Value.string) 9)]) rfl rfl rfl Tryz.func17 Zk rfl (fun w1 hw1 => by
  simp only [Array.empty_append, Array.append_empty]
  have h := k_Take (f := spX0) (L := [(Bk p18 (W6.map Value.string) 9)]) hx0 (by unfold inFD in64; decide +kernel) (.head _) hL hw1
  rw [sp_first] at h
  exact h) ?_
 rintro x1 ⟨hx1, px1⟩
 refine Ze (Zt (Zs (Zr ?_)))
 refine Xa ?_
 refine Ze (Zt (Zs (Zs (Zr ?_))))
 refine Xa ?_
 refine Ze (Zt (w_block ?_))
 refine w_loop (σ := Nat × ByteArray) (fun z => z.1 ≤ 8 ∧ z.2.size ≤ 20 * z.1) (fun z => [(0, Value.slice AO od.length cO), (5, Value.bool true), (6, Value.slice (some ⟨p18, 0, none⟩) 6 6), (7, Pt x0.pf), (1, Value.slice AT tl.length cT), (8, Value.string z.2), (9, Vi (z.1 : Nat))]) (fun z => FO x1 (spF []) ++ [(Bk p18 (W6.map Value.string) 9)]) (fun z => [(w, fun _ => True)]) (fun z => 8 - z.1) ((0, ⟨#[]⟩)) (⟨Nat.zero_le _, Nat.zero_le _⟩) (l_start Zu (fun _ h => h)) ?_
 rintro ⟨k, t⟩ ⟨hk, hts⟩
 refine w_state ([(0, Value.slice AO od.length cO), (5, Value.bool true), (6, Value.slice (some ⟨p18, 0, none⟩) 6 6), (7, Pt x0.pf), (1, Value.slice AT tl.length cT), (8, Value.string t), (9, Vi (k : Nat))]) (FO x1 (spF []) ++ [(Bk p18 (W6.map Value.string) 9)]) ([(w, fun _ => True)]) ?_
 dsimp only at hk hts
 refine Zs (Zs (Zr ?_))
 refine Xm ?_
 refine Xm ?_
 refine Xv (v := Vi (tl.length : Nat)) rfl (v_len_slice u22 rfl) ?_
 refine Xb rfl (v_lss rfl rfl) fun b26 hb26 => ?_
 refine Xm ?_
 refine Xg ?_
 refine Xj rfl rfl rfl (fun hg0 => by subst hg0; (try simp only [Qy]); exact v_lss rfl rfl) fun b29 hb29 => ?_
 refine Xb rfl (v_and rfl rfl) fun b30 hb30 => ?_
 refine Ze (Zt ?_)
 refine w_cond rfl (fun hc30 => ?_) fun hc30 => ?_
 ·simp only [hb30, hb29, hb26, Qz, ne_eq] at hc30
  have hkl : k < tl.length := by omega
  have hk8 : k < 8 := by omega
  obtain ⟨bT, oT, hAT, _, hcT, hTb⟩ := u8_at htl hkl
  have hz1 := wq_sz tl[k].toNat
  have hz2 := xq_sz tl[k].toNat
  refine w_skip (Zt (Zs (w_block ?_)))
  refine rg_draw 22 [(true, 0), (true, 1), (true, 2), (true, 3), (true, 4), (true, 5), (true, 6), (true, 7), (true, 8), (true, 9), (true, 11), (true, 12), (true, 13), (true, 14), (true, 15), (true, 16), (false, 10), (true, 17), (true, 18), (true, 19), (true, 20), (true, 21)] Zk Zk ?_
  refine Xm ?_
  refine Xm ?_
  refine Xm ?_
  refine Xm ?_
  refine Xv rfl (v_indexAddr u22 sz5 (congrArg (fun A => some (Value.slice A tl.length cT)) hAT) rfl (hkl) rfl) ?_
  refine Xl rfl u5 rfl (at_ro (.head _) trivial (v := Value.int .u8 tl[k]) hcT) ?_
  refine Xv (v := Value.int .u8 ((tl[k].toNat % 6 : Nat) : Int)) rfl (by rw [← tmod6 hTb.1]; exact v_rem rfl rfl (by decide)) ?_
  refine Xv rfl (v_indexAddr u38 sz9 rfl rfl (Nat.mod_lt _ (by decide)) rfl) ?_
  refine Xl rfl u9 rfl (at_ownL (vs := W6.map Value.string) (v := Value.string (wq tl[k].toNat)) (List.mem_append_right _ (.head _)) (wq_at _)) ?_
  refine Xv rfl (v_sadd rfl rfl (by show 3 + _ ≤ _; omega)) ?_
  refine Xm ?_
  refine Xm ?_
  refine Xv rfl (v_indexAddr u22 sz5 (congrArg (fun A => some (Value.slice A tl.length cT)) hAT) rfl (hkl) rfl) ?_
  refine Xl rfl u5 rfl (at_ro (.head _) trivial (v := Value.int .u8 tl[k]) hcT) ?_
  refine Xv (v := Value.int .u8 ((tl[k].toNat / 6 : Nat) : Int)) rfl (v_quoE rfl rfl (by decide) (by rw [tdiv6 hTb.1]; exact wrap_u8 (by omega))) ?_
  refine Xv (v := Value.int .u8 ((tl[k].toNat / 6 % 2 : Nat) : Int)) rfl (v_remN rfl rfl (by decide)) ?_
  refine x_buildSliceL (cs := X2.map Value.string) rfl rfl rfl u38 sz9 zr9 rfl rfl Zk ?_
  intro p43
  refine Xv rfl (v_indexAddr u38 sz9 rfl rfl (Nat.mod_lt _ (by decide)) rfl) ?_
  refine Xl rfl u9 rfl (at_ownL (vs := X2.map Value.string) (v := Value.string (xq tl[k].toNat)) (.head _) (xq_at _)) ?_
  refine Xv rfl (v_sadd rfl rfl (by rw [ByteArray.size_append]; show (3 + _) + _ ≤ _; omega)) ?_
  refine Xv rfl (v_sadd rfl rfl (by rw [ByteArray.size_append, ByteArray.size_append]; show _ + ((3 + _) + _) ≤ _; omega)) ?_
  refine Xa ?_
  refine Ze (b_norm (Zt (Zr ?_)))
  refine Xm ?_
  refine Xv rfl (v_addi rfl rfl rfl Zo) ?_
  refine Xa ?_
  refine Ze ?_
  exact l_norm (k + 1, t ++ (⟨#[32, 45, 32]⟩ ++ wq tl[k].toNat ++ xq tl[k].toNat)) ⟨hk8, by dsimp only; rw [ByteArray.size_append, ByteArray.size_append, ByteArray.size_append]; show _ + ((3 + _) + _) ≤ _; omega⟩ (by simp only; omega) Zu (fun w1 h => h.less (List.sublist_cons_self _ _) (fun _ h => h))
 simp only [hb30, hb29, hb26, Qz, ne_eq] at hc30
 have htz : t.size ≤ 4000000 := by omega
 refine w_exit ?_
 refine t_exit ?_
 refine t_exit ?_
 refine b_hit ?_
 refine Zt (Zs (Zr ?_))
 refine Xm ?_
 refine x_own (τ := RowS) (fun r => rowV r (wordsP t).length) (fun r => rowOK 1 r (wordsP t).length ((wordsP t).map Value.string)) (fun r => rowO 9 r ++ (FO x1 (spF []) ++ [(Bk p18 (W6.map Value.string) 9)])) rfl rfl rfl Tryz.func21 Zk rfl (fun w1 hw1 => (r_Words t w1 htz).mono fun e w2 ⟨r, h1, h2, h3⟩ => ⟨r, h1, h3.base (by simp), h2, Mem.join2 hw1 h3⟩) fun r hrw => ?_
 refine Xa ?_
 refine Ze (Zt (Zs (Zr ?_)))
 refine Xa ?_
 refine Ze (Zt (Zs (Zs (Zr ?_))))
 refine Xa ?_
 refine Ze (Zt (w_block ?_))
 refine w_loop (σ := Nat × FM8) (fun z => z.1 ≤ od.length ∧ z.1 ≤ 6 ∧ FOK z.2 (spF (wsL (od.take z.1))) ∧ z.2.pf = x0.pf) (fun z => [(0, Value.slice AO od.length cO), (5, Value.bool true), (6, Value.slice (some ⟨p18, 0, none⟩) 6 6), (7, Pt x0.pf), (8, Value.string t), (10, rowV r (wordsP t).length), (11, Vi (wantF (wordsP t) (wsL (od.take z.1)))), (12, Vi (z.1 : Nat))]) (fun z => FO z.2 (spF (wsL (od.take z.1))) ++ (rowO 9 r ++ [(Bk p18 (W6.map Value.string) 9)])) (fun z => [(w, fun _ => True)]) (fun z => od.length - z.1) ((0, x1)) (⟨Nat.zero_le _, Nat.zero_le _, hx1, px1⟩) (l_start Zu (fun w1 h => h.perm (List.perm_append_comm_assoc _ _ _))) ?_
 rintro ⟨k, x⟩ ⟨hk, hk6, hx, px⟩
 refine w_state ([(0, Value.slice AO od.length cO), (5, Value.bool true), (6, Value.slice (some ⟨p18, 0, none⟩) 6 6), (7, Pt x0.pf), (8, Value.string t), (10, rowV r (wordsP t).length), (11, Vi (wantF (wordsP t) (wsL (od.take k)))), (12, Vi (k : Nat))]) (FO x (spF (wsL (od.take k))) ++ (rowO 9 r ++ [(Bk p18 (W6.map Value.string) 9)])) ([(w, fun _ => True)]) ?_
 dsimp only at hk hk6 hx px
 refine Zs (Zs (Zr ?_))
 refine Xm ?_
 refine Xm ?_
 refine Xv (v := Vi (od.length : Nat)) rfl (v_len_slice u22 rfl) ?_
 refine Xb rfl (v_lss rfl rfl) fun b59 hb59 => ?_
 refine Xm ?_
 refine Xg ?_
 refine Xj rfl rfl rfl (fun hg0 => by subst hg0; (try simp only [Qy]); exact v_lss rfl rfl) fun b62 hb62 => ?_
 refine Xb rfl (v_and rfl rfl) fun b63 hb63 => ?_
 refine Ze (Zt ?_)
 refine w_cond rfl (fun hc63 => ?_) fun hc63 => ?_
 ·simp only [hb63, hb62, hb59, Qz, ne_eq] at hc63
  have hkl : k < od.length := by omega
  have hk66 : k < 6 := by omega
  obtain ⟨bO, oO, hAO, _, hcO, hOb⟩ := u8_at ho hkl
  have hwl : (wsL (od.take k)).length = k := by rw [wsL_len, List.length_take]; omega
  have hws1 := wsL_succ hkl
  have hst1 : takeF (spF (wsL (od.take k))) (spN k (wq od[k].toNat)) = (0, (spF (wsL (od.take k))) ++ [(spN k (wq od[k].toNat))]) := by
   have h := sp_step1 (ws := (wsL (od.take k))) (wq_mem od[k].toNat) (by omega)
   rw [hwl] at h; exact h
  have hst2 : takeF ((spF (wsL (od.take k))) ++ [(spN k (wq od[k].toNat))]) (spS k (wq od[k].toNat)) = (0, spF ((wsL (od.take k)) ++ [(wq od[k].toNat)])) := by
   have h := sp_step2 (ws := (wsL (od.take k))) (wq_mem od[k].toNat) (by omega)
   rw [hwl] at h; exact h
  have hz1 := wq_sz od[k].toNat
  refine w_skip (Zt (Zs (w_block (Zs (Zr ?_)))))
  refine Xm ?_
  refine Xm ?_
  refine Xm ?_
  refine Xv rfl (v_indexAddr u22 sz5 (congrArg (fun A => some (Value.slice A od.length cO)) hAO) rfl (hkl) rfl) ?_
  refine Xl rfl u5 rfl (at_ro (.head _) trivial (v := Value.int .u8 od[k]) hcO) ?_
  refine Xv (v := Value.int .u8 ((od[k].toNat % 6 : Nat) : Int)) rfl (by rw [← tmod6 hOb.1]; exact v_rem rfl rfl (by decide)) ?_
  refine Xv rfl (v_indexAddr u38 sz9 rfl rfl (Nat.mod_lt _ (by decide)) rfl) ?_
  refine Xl rfl u9 rfl (at_ownL (vs := W6.map Value.string) (v := Value.string (wq od[k].toNat)) (List.mem_append_right _ (List.mem_append_right _ (.head _))) (wq_at _)) ?_
  refine Xa ?_
  refine Ze (Zt (Zs (Zr ?_)))
  refine Xm ?_
  refine Xm ?_
  refine Xv rfl (v_muli rfl rfl rfl Zo) ?_
  refine Xv rfl (v_addi rfl rfl rfl Zo) ?_
  refine Xm ?_
  refine Xv rfl (v_addi rfl rfl rfl Zo) ?_
  refine Xm ?_
  refine Xv (v := Value.agg ((spN k (wq od[k].toNat))).cells.toArray) rfl (v_buildL (cs := ((spN k (wq od[k].toNat))).cells) (places := [(0, 1), (1, 1), (2, 1), (3, 1), (4, 1), (5, 1)]) u28 zr28 Zk rfl rfl) ?_
  refine x_turn (τ := FM8) (fst := #[]) (cap := #[]) (v := Vi 0) (fun y => FOK y ((spF (wsL (od.take k))) ++ [(spN k (wq od[k].toNat))]) ∧ y.pf = x0.pf) (fun y => FO y ((spF (wsL (od.take k))) ++ [(spN k (wq od[k].toNat))]) ++ (rowO 9 r ++ [(Bk p18 (W6.map Value.string) 9)])) rfl rfl rfl Tryz.func17 Zk rfl (fun w1 hw1 => by
   simp only [Array.empty_append, Array.append_empty]
   have h := k_Take (f := (spN k (wq od[k].toNat))) (L := (rowO 9 r ++ [(Bk p18 (W6.map Value.string) 9)])) hx (by unfold inFD in64; have h9 := wq_sz od[k].toNat; dsimp only [spN, spS]; omega) (.head _) hL hw1
   rw [hst1, px] at h
   exact h) ?_
  rintro x2 ⟨hx2, px2⟩
  refine Ze (Zt (Zs (Zr ?_)))
  refine Xm ?_
  refine Xm ?_
  refine Xv rfl (v_muli rfl rfl rfl Zo) ?_
  refine Xv rfl (v_addi rfl rfl rfl Zo) ?_
  refine Xm ?_
  refine Xv rfl (v_addi rfl rfl rfl Zo) ?_
  refine Xm ?_
  refine Xv (v := Value.agg ((spS k (wq od[k].toNat))).cells.toArray) rfl (v_buildL (cs := ((spS k (wq od[k].toNat))).cells) (places := [(0, 1), (1, 1), (2, 1), (3, 1), (4, 1), (5, 1)]) u28 zr28 Zk rfl rfl) ?_
  refine x_turn (τ := FM8) (fst := #[]) (cap := #[]) (v := Vi 0) (fun y => FOK y (spF ((wsL (od.take k)) ++ [(wq od[k].toNat)])) ∧ y.pf = x0.pf) (fun y => FO y (spF ((wsL (od.take k)) ++ [(wq od[k].toNat)])) ++ (rowO 9 r ++ [(Bk p18 (W6.map Value.string) 9)])) rfl rfl rfl Tryz.func17 Zk rfl (fun w1 hw1 => by
   simp only [Array.empty_append, Array.append_empty]
   have h := k_Take (f := (spS k (wq od[k].toNat))) (L := (rowO 9 r ++ [(Bk p18 (W6.map Value.string) 9)])) hx2 (by unfold inFD in64; have h9 := wq_sz od[k].toNat; dsimp only [spN, spS]; omega) (.head _) hL hw1
   rw [hst2, px2] at h
   exact h) ?_
  rintro x3 ⟨hx3, px3⟩
  refine Ze (Zt (Zs (Zr ?_)))
  refine Xa ?_
  refine Ze (Zt (w_block ?_))
  refine w_loop (σ := Nat) (fun j => j ≤ (wordsP t).length) (fun j => [(0, Value.slice AO od.length cO), (5, Value.bool true), (6, Value.slice (some ⟨p18, 0, none⟩) 6 6), (7, Pt x0.pf), (8, Value.string t), (10, rowV r (wordsP t).length), (11, Vi (wantJ (wordsP t) (wsL (od.take k)) (wq od[k].toNat) j)), (12, Vi (k : Nat)), (13, Value.string (wq od[k].toNat)), (14, Vi (j : Nat))]) (fun j => FO x3 (spF ((wsL (od.take k)) ++ [wq od[k].toNat])) ++ (rowO 9 r ++ [(Bk p18 (W6.map Value.string) 9)])) (fun j => [(w, fun _ => True)]) (fun j => (wordsP t).length - j) (0) (Nat.zero_le _) (l_start (by rw [wantJ_zero]; repeat (first | exact Sub.nil | refine Sub.cons rfl ?_)) (fun _ h => h)) ?_
  rintro j hj
  refine w_state ([(0, Value.slice AO od.length cO), (5, Value.bool true), (6, Value.slice (some ⟨p18, 0, none⟩) 6 6), (7, Pt x0.pf), (8, Value.string t), (10, rowV r (wordsP t).length), (11, Vi (wantJ (wordsP t) (wsL (od.take k)) (wq od[k].toNat) j)), (12, Vi (k : Nat)), (13, Value.string (wq od[k].toNat)), (14, Vi (j : Nat))]) (FO x3 (spF ((wsL (od.take k)) ++ [wq od[k].toNat])) ++ (rowO 9 r ++ [(Bk p18 (W6.map Value.string) 9)])) ([(w, fun _ => True)]) ?_
  refine Zs (Zs (Zr ?_))
  refine Xm ?_
  refine Xm ?_
  refine Xv (v := Vi ((wordsP t).length : Nat)) rfl (v_len_slice u38 rfl) ?_
  refine Xb rfl (v_lss rfl rfl) fun b95 hb95 => ?_
  refine Xm ?_
  refine Xg ?_
  refine Xj rfl rfl rfl (fun hg0 => by subst hg0; (try simp only [Qy]); exact v_eql rfl rfl) fun b98 hb98 => ?_
  refine Xb rfl (v_and rfl rfl) fun b99 hb99 => ?_
  refine Ze (Zt ?_)
  refine w_cond rfl (fun hc99 => ?_) fun hc99 => ?_
  ·simp only [hb99, hb98, hb95, Qz, ne_eq] at hc99
   have hjl : j < (wordsP t).length := by omega
   have hw1_ : wantJ (wordsP t) (wsL (od.take k)) (wq od[k].toNat) j = 1 := by omega
   obtain ⟨g2, cs2, cp2, hS2, hcp2, hcl2⟩ := row_at (c := fun t : ByteArray => [Value.string t]) (m := 1) (fun _ => rfl) (by decide) (xs := (wordsP t)) (by rw [flat1]; exact hrw) hjl
   refine w_skip (Zt (Zs (w_block (Zs ?_))))
   refine rg_draw 7 [(true, 0), (true, 1), (true, 2), (true, 3), (true, 4), (true, 5), (true, 6)] Zk Zk ?_
   refine Xm ?_
   refine Xm ?_
   refine Xv rfl (v_indexAddr u38 sz9 (congrArg (fun R => some (rowV R (wordsP t).length)) hS2) rfl (hjl) rfl) ?_
   refine Xl rfl u9 rfl (at_ownL (vs := cs2) (v := Value.string (wordsP t)[j]) (List.mem_append_right _ (List.mem_append_left _ (by rw [hS2]; exact .head _))) (by rw [Nat.zero_add]; exact hcl2 0 (by decide))) ?_
   refine Xm ?_
   refine x_callv rfl rfl rfl Tryz.func22 Zk rfl (fun w1 hw1 => r_Fold _ w1 (by omega)) ?_
   refine Xb rfl (v_seql rfl rfl) fun b108 hb108 => ?_
   refine Ze (Zt ?_)
   refine w_cond rfl (fun hc108 => ?_) fun hc108 => ?_
   ·simp only [hb108, Qz, ne_eq] at hc108
    refine Zr ?_
    refine Xm ?_
    refine Xv rfl (v_addi rfl rfl rfl Zo) ?_
    refine Xa ?_
    refine Ze (b_norm (Zt (Zr ?_)))
    refine Xm ?_
    refine Xv rfl (v_addi rfl rfl rfl (by have h9 := wordsP_len t; omega)) ?_
    refine Xa ?_
    refine Ze ?_
    exact l_norm (j + 1) hjl (by omega) (by rw [wantJ_succ hjl hw1_, if_pos hc108, hwl]; repeat (first | exact Sub.nil | refine Sub.cons rfl ?_)) (fun _ h => h)
   simp only [hb108, Qz, ne_eq] at hc108
   refine w_skip (b_norm (Zt (Zr ?_)))
   refine Xm ?_
   refine Xv rfl (v_addi rfl rfl rfl (by have h9 := wordsP_len t; omega)) ?_
   refine Xa ?_
   refine Ze ?_
   exact l_norm (j + 1) hjl (by omega) (by rw [wantJ_succ hjl hw1_, if_neg hc108]; repeat (first | exact Sub.nil | refine Sub.cons rfl ?_)) (fun _ h => h)
  simp only [hb99, hb98, hb95, Qz, ne_eq] at hc99
  have hne : ¬(j < (wordsP t).length ∧ wantJ (wordsP t) (wsL (od.take k)) (wq od[k].toNat) j = 1) := fun h9 => by omega
  have hend := wantJ_end hne
  refine w_exit ?_
  refine t_exit ?_
  refine t_exit ?_
  refine b_hit ?_
  refine b_norm (Zt (Zr ?_))
  refine Xm ?_
  refine Xv rfl (v_addi rfl rfl rfl Zo) ?_
  refine Xa ?_
  refine Ze ?_
  exact l_norm (k + 1, x3) ⟨hkl, hk66, by dsimp only; rw [hws1]; exact hx3, px3⟩ (by simp only; omega) (by dsimp only; rw [hws1, ← hend]; repeat (first | exact Sub.nil | refine Sub.cons rfl ?_)) (fun _ h => h.to (by dsimp only; rw [hws1]))
 simp only [hb63, hb62, hb59, Qz, ne_eq] at hc63
 have hres : resolveF (stF (spF (wsL (od.take k)))).hs (wordsP t) 1 = (wantF (wordsP t) (wsL (od.take k)), true) := by rw [spH_st]; exact want_res _ _
 refine w_exit ?_
 refine t_exit ?_
 refine t_exit ?_
 refine b_hit ?_
 refine Zt (Zs (Zr ?_))
 refine Xm ?_
 refine Xm ?_
 refine x_turn (τ := FM8) (fst := #[]) (cap := #[]) (v := .tuple #[Vi (wantF (wordsP t) (wsL (od.take k))), .bool true]) (fun y => FOK y ((spF (wsL (od.take k)))) ∧ y.pf = x0.pf) (fun y => FO y ((spF (wsL (od.take k)))) ++ (rowO 9 r ++ [(Bk p18 (W6.map Value.string) 9)])) rfl rfl rfl Tryz.func18 Zk rfl (fun w1 hw1 => by
  simp only [Array.empty_append, Array.append_empty]
  have h := (by have h9 := k_Resolve (h := 1) (t := t) (L := (rowO 9 r ++ [(Bk p18 (W6.map Value.string) 9)])) hx (by unfold in64; omega) htz (.head _) hL hw1; rw [hres] at h9; exact h9)
  rw [px] at h
  exact h) ?_
 rintro xa ⟨hxa, pxa⟩
 refine Xm ?_
 refine Xe ?_
 refine Xb rfl (v_extract rfl rfl) fun b116 hb116 => ?_
 obtain rfl : b116 = true := hb116
 refine Xa ?_
 refine Xa ?_
 refine Ze (Zt (Zs (Zr ?_)))
 refine Xm ?_
 refine Xm ?_
 refine x_valg rfl rfl rfl rfl rfl (v_move rfl) ?_
 refine Xb rfl (v_and rfl rfl) fun b120 hb120 => ?_
 obtain rfl : b120 = true := hb120
 refine Xm ?_
 refine x_valg rfl rfl rfl rfl rfl (v_move rfl) ?_
 refine x_valg rfl rfl rfl rfl rfl (v_move rfl) ?_
 refine x_boolg rfl rfl rfl rfl rfl (v_eql rfl rfl) fun b124 hb124 => ?_
 obtain rfl : b124 = true := hb124.trans (decide_eq_true rfl)
 refine Xb rfl (v_and rfl rfl) fun b125 hb125 => ?_
 obtain rfl : b125 = true := hb125
 refine Xm ?_
 refine x_valg rfl rfl rfl rfl rfl (v_move rfl) ?_
 refine x_turnVg (τ := RowS × FM8) (fun z => rowV z.1 (stF (spF (wsL (od.take k)))).ref.length) (fun z => rowOK 6 z.1 (stF (spF (wsL (od.take k)))).ref.length (fdsC (stF (spF (wsL (od.take k)))).ref) ∧ FOK z.2 (spF (wsL (od.take k))) ∧ z.2.pf = x0.pf) (fun z => FO z.2 (spF (wsL (od.take k))) ++ (rowO 28 z.1 ++ (rowO 9 r ++ [(Bk p18 (W6.map Value.string) 9)]))) rfl rfl rfl rfl Tryz.func20 Zk rfl (fun w1 hw1 => by
  have h := k_Refused (L := (rowO 9 r ++ [(Bk p18 (W6.map Value.string) 9)])) hxa (.head _) hL hw1
  rw [pxa] at h
  exact h.mono fun e w2 ⟨R, h1, h2, y, ⟨h3, h4⟩, h5⟩ => ⟨(R, y), h1, ⟨h2, h3, h4⟩, h5⟩) ?_
 rintro ⟨R9, x9⟩ ⟨hR9, hx9, px9⟩
 refine x_valg (v := Vi ((stF (spF (wsL (od.take k)))).ref.length : Nat)) rfl rfl rfl rfl rfl (v_len_slice u24 rfl) ?_
 refine x_boolg rfl rfl rfl rfl rfl (v_eql rfl rfl) fun b130 hb130 => ?_
 obtain rfl : b130 = true := hb130.trans (by rw [spH_st]; rfl)
 refine Xb rfl (v_and rfl rfl) fun b131 hb131 => ?_
 obtain rfl : b131 = true := hb131
 refine Xa ?_
 refine Ze (Zt (w_ret ?_))
 exact ret1 rfl rfl (fun w' hm => ⟨rfl, hm.base (by simp)⟩)
end Go.Proofs.YtnflcekodobdlaaGreatDoor

namespace Go.Proofs.YtnflcekodobdlaaGreatDoor
open Go.RowKit Go.PK
def laidL : List (String × DataW Unit) := [("math/bits.deBruijn32tab", Rows.laid_math_bits_deBruijn32tab), ("math/bits.deBruijn64tab", Rows.laid_math_bits_deBruijn64tab), ("internal/strconv.uint64pow10", Rows.laid_internal_strconv_uint64pow10), ("strconv.ErrRange", Rows.laid_strconv_ErrRange), ("strconv.ErrSyntax", Rows.laid_strconv_ErrSyntax)]
theorem noHandle {W : World} (h : laidMetH Tryz.prog laidL W) : laidMet Tryz.prog laidL W := by
 have h1 := (laidMetH_iff.1 h).1
 rwa [show (laidL.filter fun x => x.2.handleName?.isNone) = laidL from by kernel_rfl] at h1
theorem laid_tab {W : World} (h : laidMet Tryz.prog laidL W) : Lib.TabIs Tryz.prog W "internal/strconv.uint64pow10" .u64 Lib.pow10Tab := by
 have h1 := h.filter fun x => x.1 == "internal/strconv.uint64pow10"
 have e : (laidL.filter fun x => x.1 == "internal/strconv.uint64pow10") = [("internal/strconv.uint64pow10", Lib.tabData .u64 Lib.pow10Tab)] := by kernel_rfl
 rw [e] at h1
 exact Lib.tabIs_of_head (g := 2) (t := 204) (e := 155) (n := 20) Zk Zk Zk Zk Zk Zk h1
theorem star : "*" ++ "errors.errorString" = "*errors.errorString" := by decide
theorem row104 (u : TypeId) (h : Tryz.prog.typeName? 3 u = some "*errors.errorString") : u = 212 :=
 typeName_ptr_named (nm := "errors.errorString") (by rw [star]; kernel_rfl) Zk (by decide) u (by rw [star]; exact h)
theorem laid_syn {W : World} (h : laidMet Tryz.prog laidL W) : ∃ tp p, W.var? Tryz.prog "strconv.ErrSyntax" = some #[.iface tp p] := by
 have h1 := h.filter fun x => x.1 == "strconv.ErrSyntax"
 have e : (laidL.filter fun x => x.1 == "strconv.ErrSyntax") = [("strconv.ErrSyntax", .iface "*errors.errorString" (.ptr (.agg [.lit (.string [105, 110, 118, 97, 108, 105, 100, 32, 115, 121, 110, 116, 97, 120])])))] := by kernel_rfl
 rw [e] at h1
 obtain ⟨a0, s0, hv0, _⟩ := laid_sentinel (g := 0) (ti := 135) (tp := 212) (te := 214) (ts := 9) h1 Zk Zk u135 row104 u212 u214 rfl rfl u9 Zk Zk
 exact ⟨_, _, hv0⟩
theorem laid_rng {W : World} (h : laidMet Tryz.prog laidL W) : ∃ tp p, W.var? Tryz.prog "strconv.ErrRange" = some #[.iface tp p] := by
 have h1 := h.filter fun x => x.1 == "strconv.ErrRange"
 have e : (laidL.filter fun x => x.1 == "strconv.ErrRange") = [("strconv.ErrRange", .iface "*errors.errorString" (.ptr (.agg [.lit (.string [118, 97, 108, 117, 101, 32, 111, 117, 116, 32, 111, 102, 32, 114, 97, 110, 103, 101])])))] := by kernel_rfl
 rw [e] at h1
 obtain ⟨a0, s0, hv0, _⟩ := laid_sentinel (g := 1) (ti := 135) (tp := 212) (te := 214) (ts := 9) h1 Zk Zk u135 row104 u212 u214 rfl rfl u9 Zk Zk
 exact ⟨_, _, hv0⟩
theorem ld_of {W : World} (h : laidMetH Tryz.prog laidL W) (hS : W.ShapedOpen Tryz.prog) : LD W := ⟨laid_tab (noHandle h), Tryz.laysM145.s1_3 W hS, laid_syn (noHandle h), laid_rng (noHandle h)⟩
theorem laid_met (os : Os) (args : Array Value) : laidMet Tryz.prog laidL ((World.laidAll Tryz.prog os laidL).forCall (fun _ _ => 0) ⟨#[], args, []⟩).memory :=
 laidMet_laidAll args Zk Zk
theorem bulk_one {H : Type} (d : DataW H) : 1 ≤ Rows.uptoBulk d := by
 cases d with
 | lit l => cases l <;> simp [Rows.uptoBulk]
 | nil => simp [Rows.uptoBulk]
 | ptr d => simp [Rows.uptoBulk]
 | slice elems spare => simp [Rows.uptoBulk]
 | agg parts => simp [Rows.uptoBulk]
 | iface t d => simp [Rows.uptoBulk]
 | map entries => simp [Rows.uptoBulk]
 | held h => simp [Rows.uptoBulk]
def meas (H : Type) : Meas H := ⟨Rows.uptoBulk, Rows.uptoBulkAll, fun _ => by simp [Rows.uptoBulk], fun _ _ => by simp [Rows.uptoBulk], fun _ => by simp [Rows.uptoBulk], fun _ _ => by simp [Rows.uptoBulkAll], bulk_one⟩
open Go.RowKit Go.PK
attribute [local irreducible] WX
theorem fN8_in {k : Nat} (h : k ≤ 31) : inFD (fN8 k) := by
 have h9 := itoaS_size (n := (k : Int)) (by unfold in64; omega)
 have h8 : (nmB k).size = 5 + (itoaS (k : Int)).size := by unfold nmB; rw [ByteArray.size_append]; rfl
 unfold inFD in64 fN8
 dsimp only
 omega
theorem lin_in {q : Nat → Nat} {n : Nat} (hn : n ≤ 30) : ∀ y ∈ linP q n, inFD y := fun y hy => by
 rcases List.mem_append.1 hy with hy | hy
 ·rcases List.mem_append.1 hy with hy | hy
  ·obtain ⟨i, h1, h2, rfl⟩ := nws_mem hy
   exact fN8_in (by omega)
  obtain ⟨i, h1, h2, rfl⟩ := rn_mem hy
  have h9 := itoaS_size (n := (i : Int)) (by unfold in64; omega)
  have h8 : (nwB i).size = 9 + (itoaS (i : Int)).size := by unfold nwB; rw [ByteArray.size_append]; rfl
  unfold inFD in64 fR8
  dsimp only
  omega
 obtain ⟨i, h1, h2, h3, rfl⟩ := mg_mem hy
 have := inV_yes h3
 unfold inFD in64 fM8
 dsimp only
 refine ⟨by omega, by omega, by omega, by omega, by omega, Nat.zero_le _⟩
theorem tmod30 {a : Int} (h : 0 ≤ a) : a.tmod 30 = ((a.toNat % 30 : Nat) : Int) := by
 rw [Int.tmod_eq_emod_of_nonneg h]; omega
set_option maxHeartbeats 4000000 in
theorem lawLineage (m : Int) (bk : Bool) {AO : Option Addr} {cO : Nat} {od : List Int} (w : World) (hm : 0 ≤ m ∧ m ≤ 255) (ho : sliceRd (tyK .u8) (fun _ => True) w (.slice AO od.length cO) od) (hL : LD w) :
  Calls Tryz.prog 3 #[.int .u8 m, .slice AO od.length cO, .bool bk] w fun e w' => e = .returned (.bool (true)) ∧ Later w w' := by
 have hodl : od.length ≤ maxLen := by obtain ⟨_, _, hv, h1, h2, _⟩ := id ho; first | exact h2 | omega
 simp only [maxLen] at hodl
 obtain ⟨n, hnm⟩ : ∃ n, n = 1 + m.toNat % 30 := ⟨_, rfl⟩
 have hn30 : 1 ≤ n ∧ n ≤ 30 := by omega
 have hq : ∀ j, qn od j ≤ 255 := fun j => by
  by_cases hp : 0 < od.length
  ·have hi := Nat.mod_lt j hp
   rw [qn_at hi]
   obtain ⟨_, _, _, _, _, h8⟩ := u8_at ho hi
   omega
  rw [qn_nil (by omega)]; omega
 have hYp : (ordY bk (linX (qn od) n)).Perm (linP (qn od) n) := (ordY_perm bk _).trans lin_perm
 obtain ⟨hYr, hYa, hYl, hYt⟩ := lin_any hn30.2 hYp
 have hXl : (linX (qn od) n).length ≤ 90 := by rw [← ordY_len bk]; exact hYl
 refine enter (vs := [.int .u8 m, .slice AO od.length cO, .bool bk]) Tryz.func3 rfl Tryz.ntmps3 rfl ?_
 refine Zs (Zr ?_)
 refine Xa ?_
 refine Ze (Zt (Zs (Zr ?_)))
 refine x_callb rfl rfl rfl Tryz.func14 Zk rfl (fun w1 hw1 => c_sanity w1 (hL.later (hw1.base (by simp)))) fun b23 hb23 => ?_
 obtain rfl : b23 = true := hb23
 refine Xa ?_
 refine Ze (Zt (Zs (Zr ?_)))
 refine Xm ?_
 refine Xv (v := Value.int .u8 ((m.toNat % 30 : Nat) : Int)) rfl (by rw [← tmod30 hm.1]; exact v_rem rfl rfl (by decide)) ?_
 refine Xv rfl (v_conv64 u5 u3 rfl (by omega)) ?_
 refine Xv rfl (v_addi (c := ((n : Nat) : Int)) rfl rfl (by omega) (by omega)) ?_
 refine Xa ?_
 refine Ze (Zt (Zs (Zr ?_)))
 refine Xa ?_
 refine Ze (Zt (Zs (Zr ?_)))
 refine Xm ?_
 refine Xv rfl (v_addi (c := ((n + 1 : Nat) : Int)) rfl rfl (by omega) (by omega)) ?_
 refine x_makeSlice (c := n + 1) rfl rfl rfl rfl rfl u25 ap3 rfl (by omega) Zx ?_
 intro p30
 refine Xa ?_
 refine Ze (Zt (Zs (Zs (Zr ?_))))
 refine Xa ?_
 refine Ze (Zt (w_block ?_))
 refine w_loop (σ := Nat × RowS) (fun z => z.1 ≤ n ∧ rowOK 6 z.2 (nwsL8 z.1).length (fdsC (nwsL8 z.1))) (fun z => [(1, Value.slice AO od.length cO), (2, Value.bool bk), (7, Value.bool true), (8, Vi (n : Nat)), (9, rowV z.2 (nwsL8 z.1).length), (10, Value.slice (some ⟨p30, 0, none⟩) (n + 1) (n + 1)), (11, Vi (z.1 + 1 : Nat))]) (fun z => (Bk p30 ((inL (qn od) n 0).map (Value.int .i64)) 3) :: rowO 28 z.2) (fun z => [(w, fun _ => True)]) (fun z => n - z.1) ((0, none)) (⟨Nat.zero_le _, rowOK_nil⟩) (l_start Zu (fun w1 h => h.to (by rw [inL_zero]; rfl))) ?_
 rintro ⟨k, R⟩ ⟨hk, hR⟩
 refine w_state ([(1, Value.slice AO od.length cO), (2, Value.bool bk), (7, Value.bool true), (8, Vi (n : Nat)), (9, rowV R (nwsL8 k).length), (10, Value.slice (some ⟨p30, 0, none⟩) (n + 1) (n + 1)), (11, Vi (k + 1 : Nat))]) ((Bk p30 ((inL (qn od) n 0).map (Value.int .i64)) 3) :: rowO 28 R) ([(w, fun _ => True)]) ?_
 dsimp only at hk hR
 refine Zs (Zs (Zr ?_))
 refine Xm ?_
 refine Xm ?_
 refine Xb rfl (v_leq rfl rfl) fun b33 hb33 => ?_
 refine Ze (Zt ?_)
 refine w_cond rfl (fun hc33 => ?_) fun hc33 => ?_
 ·simp only [hb33, Qz, ne_eq] at hc33
  have hkl : k + 1 ≤ n := by omega
  have hnl := nws_len k
  have hl1 : (nwsL8 (k + 1)).length = (nwsL8 k).length + 1 := by show (nwsL8 k ++ [fN8 (k + 1)]).length = _; rw [List.length_append]; rfl
  refine w_skip (Zt (Zs (w_block (Zr ?_))))
  refine Xm ?_
  refine Xm ?_
  refine Xm ?_
  refine Xm ?_
  refine x_callv rfl rfl rfl Tryz.func15 Zk rfl (fun w1 hw1 => r_Decimal _ w1 (by omega) (by unfold in64; omega)) ?_
  refine Xv rfl (v_sadd rfl rfl (by have h9 := itoaS_size (n := ((k + 1 : Nat) : Int)) (by unfold in64; omega); show 5 + _ ≤ _; omega)) ?_
  refine Xv (v := Value.agg ((fN8 (k + 1))).cells.toArray) rfl (v_buildL (cs := ((fN8 (k + 1))).cells) (places := [(0, 1), (1, 1), (2, 1), (3, 1), (4, 1), (5, 1)]) u28 zr28 Zk rfl rfl) ?_
  refine x_buildSliceL (cs := (fN8 (k + 1)).cells) rfl rfl rfl u24 sz28 zr28 rfl rfl rfl ?_
  intro p43
  refine x_append (e := 28) [(p43, Obj.cells ((fN8 (k + 1))).cells.toArray 28 (0, 0)), (Bk p30 ((inL (qn od) n 0).map (Value.int .i64)) 3)] (l2 := []) R (len := (nwsL8 k).length) (xs := fdsC (nwsL8 k)) rfl rfl rfl rfl (by simp) hR u24 ap28 rfl rfl (m := 1) (news := ((fN8 (k + 1))).cells) (fun i hi => at_ownL (vs := ((fN8 (k + 1))).cells) (.head _) (by rw [Nat.zero_add]; exact List.getElem?_eq_getElem hi)) rfl Zx (by omega) fun R9 hR9 => ?_
  refine Xa ?_
  refine Ze (b_norm (Zt (Zr ?_)))
  refine Xm ?_
  refine Xv rfl (v_addi rfl rfl rfl Zo) ?_
  refine Xa ?_
  refine Ze ?_
  exact l_norm (k + 1, R9) ⟨hkl, by show rowOK 6 R9 (nwsL8 k ++ [fN8 (k + 1)]).length (fdsC (nwsL8 k ++ [fN8 (k + 1)])); rw [List.length_append, fdsC_app]; exact (by simpa [fdsC] using hR9)⟩ (by simp only; omega) (by dsimp only; rw [hl1]; repeat (first | exact Sub.nil | refine Sub.cons rfl ?_)) (fun w1 h => (h.less (List.sublist_cons_self _ _) (fun _ h => h)).to (by simp))
 simp only [hb33, Qz, ne_eq] at hc33
 obtain rfl : n = k := by omega
 refine w_exit ?_
 refine t_exit ?_
 refine t_exit ?_
 refine b_hit ?_
 refine Zt (Zs (Zs (Zr ?_)))
 refine Xa ?_
 refine Ze (Zt (w_block ?_))
 refine w_loop (σ := Nat × RowS) (fun z => z.1 ≤ n ∧ rowOK 6 z.2 (nwsL8 n ++ mxL8 (qn od) n z.1).length (fdsC (nwsL8 n ++ mxL8 (qn od) n z.1))) (fun z => [(1, Value.slice AO od.length cO), (2, Value.bool bk), (7, Value.bool true), (8, Vi (n : Nat)), (9, rowV z.2 (nwsL8 n ++ mxL8 (qn od) n z.1).length), (10, Value.slice (some ⟨p30, 0, none⟩) (n + 1) (n + 1)), (12, Vi (z.1 + 1 : Nat))]) (fun z => (Bk p30 ((inL (qn od) n z.1).map (Value.int .i64)) 3) :: rowO 28 z.2) (fun z => [(w, fun _ => True)]) (fun z => n - z.1) ((0, R)) (⟨Nat.zero_le _, by show rowOK 6 R (nwsL8 n ++ []).length (fdsC (nwsL8 n ++ [])); rw [List.append_nil]; exact hR⟩) (l_start (by rw [show mxL8 (qn od) n 0 = [] from rfl, List.append_nil]; repeat (first | exact Sub.nil | refine Sub.cons rfl ?_)) (fun _ h => h)) ?_
 rintro ⟨k, R⟩ ⟨hk, hR⟩
 refine w_state ([(1, Value.slice AO od.length cO), (2, Value.bool bk), (7, Value.bool true), (8, Vi (n : Nat)), (9, rowV R (nwsL8 n ++ mxL8 (qn od) n k).length), (10, Value.slice (some ⟨p30, 0, none⟩) (n + 1) (n + 1)), (12, Vi (k + 1 : Nat))]) ((Bk p30 ((inL (qn od) n k).map (Value.int .i64)) 3) :: rowO 28 R) ([(w, fun _ => True)]) ?_
 dsimp only at hk hR
 refine Zs (Zs (Zr ?_))
 refine Xm ?_
 refine Xm ?_
 refine Xb rfl (v_leq rfl rfl) fun b47 hb47 => ?_
 refine Ze (Zt ?_)
 refine w_cond rfl (fun hc47 => ?_) fun hc47 => ?_
 ·simp only [hb47, Qz, ne_eq] at hc47
  have hkl : k + 1 ≤ n := by omega
  have hml := mx_len (q := qn od) (n := n) k
  have hnl := nws_len n
  have hXl : (nwsL8 n ++ mxL8 (qn od) n k).length ≤ 90 := by rw [List.length_append]; omega
  have hmx : nwsL8 n ++ mxL8 (qn od) n (k + 1) = (nwsL8 n ++ (mxL8 (qn od) n k ++ (one8 (nmq (qn od) (k + 1)) (fR8 (k + 1))))) ++ (one8 (mrq (qn od) n (k + 1)) (fM8 (qn od) n (k + 1))) := (List.append_assoc _ _ _).symm
  refine w_skip (Zt (Zs (w_block (Zs (Zr ?_)))))
  refine Xa ?_
  refine Ze (Zt ?_)
  refine w_seq_cut (σ := Unit) (fun z9 => True) (fun z9 => [(1, Value.slice AO od.length cO), (2, Value.bool bk), (7, Value.bool true), (8, Vi (n : Nat)), (9, rowV R (nwsL8 n ++ mxL8 (qn od) n k).length), (10, Value.slice (some ⟨p30, 0, none⟩) (n + 1) (n + 1)), (12, Vi (k + 1 : Nat)), (13, Vi (qn od (k + 1) : Nat))]) (fun z9 => (Bk p30 ((inL (qn od) n k).map (Value.int .i64)) 3) :: rowO 28 R) (fun z9 => [(w, fun _ => True)]) ?_ ?_
  ·refine w_seq ?_
   refine Zr ?_
   refine Xm ?_
   refine Xv (v := Vi (od.length : Nat)) rfl (v_len_slice u22 rfl) ?_
   refine Xb rfl (v_gtr rfl rfl) fun b52 hb52 => ?_
   refine Ze (Zt ?_)
   refine w_cond rfl (fun hc52 => ?_) fun hc52 => ?_
   ·simp only [hb52, Qz, ne_eq] at hc52
    have hpos : 0 < od.length := by omega
    have hil : (k + 1) % od.length < od.length := Nat.mod_lt _ hpos
    obtain ⟨bO, oO, hAO, _, hcO, hOb⟩ := u8_at ho hil
    have hqv := qn_at hil
    refine Zr ?_
    refine Xm ?_
    refine Xm ?_
    refine Xm ?_
    refine Xv (v := Vi (od.length : Nat)) rfl (v_len_slice u22 rfl) ?_
    refine Xv (v := Vi (((k + 1) % od.length : Nat) : Int)) rfl (v_remN rfl rfl (by omega)) ?_
    refine Xv rfl (v_indexAddr u22 sz5 (congrArg (fun A => some (Value.slice A od.length cO)) hAO) rfl (hil) rfl) ?_
    refine Xl rfl u5 rfl (at_ro (.head _) trivial (v := Value.int .u8 od[(k + 1) % od.length]) hcO) ?_
    refine Xv (v := Vi ((qn od (k + 1) : Nat) : Int)) rfl (by rw [hqv, Int.toNat_of_nonneg hOb.1]; exact v_conv64 u5 u3 rfl (by omega)) ?_
    refine Xa ?_
    refine Ze ?_
    exact c_norm () trivial Zu (fun _ h => h)
   simp only [hb52, Qz, ne_eq] at hc52
   have hqv : qn od (k + 1) = 0 := qn_nil (by omega) _
   refine w_skip ?_
   exact c_norm () trivial (by rw [hqv]; repeat (first | exact Sub.nil | refine Sub.cons rfl ?_)) (fun _ h => h)
  rintro _ _
  refine w_seq_cut (σ := RowS) (fun R => rowOK 6 R (nwsL8 n ++ (mxL8 (qn od) n k ++ (one8 (nmq (qn od) (k + 1)) (fR8 (k + 1))))).length (fdsC (nwsL8 n ++ (mxL8 (qn od) n k ++ (one8 (nmq (qn od) (k + 1)) (fR8 (k + 1))))))) (fun R => [(1, Value.slice AO od.length cO), (2, Value.bool bk), (7, Value.bool true), (8, Vi (n : Nat)), (9, rowV R (nwsL8 n ++ (mxL8 (qn od) n k ++ (one8 (nmq (qn od) (k + 1)) (fR8 (k + 1))))).length), (10, Value.slice (some ⟨p30, 0, none⟩) (n + 1) (n + 1)), (12, Vi (k + 1 : Nat)), (13, Vi (qn od (k + 1) : Nat))]) (fun R => (Bk p30 ((inL (qn od) n k).map (Value.int .i64)) 3) :: rowO 28 R) (fun R => [(w, fun _ => True)]) ?_ ?_
  ·refine w_seq ?_
   refine Zr ?_
   refine Xm ?_
   refine Xv (v := Vi ((qn od (k + 1) % 2 : Nat) : Int)) rfl (v_remN rfl rfl (by decide)) ?_
   refine Xb rfl (v_eql rfl rfl) fun b63 hb63 => ?_
   refine Ze (Zt ?_)
   refine w_cond rfl (fun hc63 => ?_) fun hc63 => ?_
   ·simp only [hb63, Qz, ne_eq] at hc63
    have hnm : nmq (qn od) (k + 1) = true := decide_eq_true (by omega)
    have hA : (one8 (nmq (qn od) (k + 1)) (fR8 (k + 1))) = [fR8 (k + 1)] := if_pos hnm
    refine Zr ?_
    refine Xm ?_
    refine Xm ?_
    refine Xv rfl (v_addi rfl rfl rfl Zo) ?_
    refine Xm ?_
    refine Xm ?_
    refine x_callv rfl rfl rfl Tryz.func15 Zk rfl (fun w1 hw1 => r_Decimal _ w1 (by omega) (by unfold in64; omega)) ?_
    refine Xv rfl (v_sadd rfl rfl (by have h9 := itoaS_size (n := ((k + 1 : Nat) : Int)) (by unfold in64; omega); show 9 + _ ≤ _; omega)) ?_
    refine Xv (v := Value.agg ((fR8 (k + 1))).cells.toArray) rfl (v_buildL (cs := ((fR8 (k + 1))).cells) (places := [(0, 1), (1, 1), (2, 1), (3, 1), (4, 1), (5, 1)]) u28 zr28 Zk rfl rfl) ?_
    refine x_buildSliceL (cs := (fR8 (k + 1)).cells) rfl rfl rfl u24 sz28 zr28 rfl rfl rfl ?_
    intro p72
    refine x_append (e := 28) [(p72, Obj.cells ((fR8 (k + 1))).cells.toArray 28 (0, 0)), (Bk p30 ((inL (qn od) n k).map (Value.int .i64)) 3)] (l2 := []) R (len := (nwsL8 n ++ mxL8 (qn od) n k).length) (xs := fdsC (nwsL8 n ++ mxL8 (qn od) n k)) rfl rfl rfl rfl (by simp) hR u24 ap28 rfl rfl (m := 1) (news := ((fR8 (k + 1))).cells) (fun i hi => at_ownL (vs := ((fR8 (k + 1))).cells) (.head _) (by rw [Nat.zero_add]; exact List.getElem?_eq_getElem hi)) rfl Zx (by omega) fun R9 hR9 => ?_
    refine Xa ?_
    refine Ze ?_
    exact c_norm R9 (by rw [hA, ← List.append_assoc, List.length_append (bs := [fR8 (k + 1)]), fdsC_app (b := [fR8 (k + 1)])]; exact (by simpa [fdsC] using hR9)) (by rw [hA, ← List.append_assoc, List.length_append (bs := [fR8 (k + 1)])]; repeat (first | exact Sub.nil | refine Sub.cons rfl ?_)) (fun _ h => (h.less (List.sublist_cons_self _ _) (fun _ h => h)).to (by simp))
   simp only [hb63, Qz, ne_eq] at hc63
   have hnm : ¬nmq (qn od) (k + 1) = true := fun h9 => by have h8 := of_decide_eq_true h9; omega
   have hA : (one8 (nmq (qn od) (k + 1)) (fR8 (k + 1))) = [] := if_neg hnm
   refine w_skip ?_
   exact c_norm R (by rw [hA, List.append_nil]; exact hR) (by rw [hA, List.append_nil]; repeat (first | exact Sub.nil | refine Sub.cons rfl ?_)) (fun _ h => h)
  rintro R hR
  refine w_state ([(1, Value.slice AO od.length cO), (2, Value.bool bk), (7, Value.bool true), (8, Vi (n : Nat)), (9, rowV R (nwsL8 n ++ (mxL8 (qn od) n k ++ (one8 (nmq (qn od) (k + 1)) (fR8 (k + 1))))).length), (10, Value.slice (some ⟨p30, 0, none⟩) (n + 1) (n + 1)), (12, Vi (k + 1 : Nat)), (13, Vi (qn od (k + 1) : Nat))]) ((Bk p30 ((inL (qn od) n k).map (Value.int .i64)) 3) :: rowO 28 R) ([(w, fun _ => True)]) ?_
  refine Zs (Zr ?_)
  refine Xm ?_
  refine Xv (v := Vi ((qn od (k + 1) % 3 : Nat) : Int)) rfl (v_remN rfl rfl (by decide)) ?_
  refine Xb rfl (v_gtr rfl rfl) fun b76 hb76 => ?_
  refine Xm ?_
  refine Xg ?_
  refine Xg ?_
  refine Xj rfl rfl rfl (fun hg0 => by subst hg0; (try simp only [Qy]); exact v_lss rfl rfl) fun b80 hb80 => ?_
  refine Xb rfl (v_and rfl rfl) fun b81 hb81 => ?_
  refine Ze (Zt ?_)
  refine w_cond rfl (fun hc81 => ?_) fun hc81 => ?_
  ·simp only [hb81, hb80, hb76, Qz, ne_eq] at hc81
   have hmr : mrq (qn od) n (k + 1) = true := decide_eq_true (by omega)
   have hB : (one8 (mrq (qn od) n (k + 1)) (fM8 (qn od) n (k + 1))) = [fM8 (qn od) n (k + 1)] := if_pos hmr
   have hiv : inV (qn od) n (k + 1) = min (k + 1 + 1 + qn od (k + 1) / 6 % 5) n := if_pos hmr
   have hA1 := one_len (nmq (qn od) (k + 1)) (fR8 (k + 1))
   have hXl2 : (nwsL8 n ++ (mxL8 (qn od) n k ++ (one8 (nmq (qn od) (k + 1)) (fR8 (k + 1))))).length ≤ 90 := by rw [List.length_append, List.length_append]; omega
   refine Zs (Zr ?_)
   refine Xm ?_
   refine Xm ?_
   refine Xm ?_
   refine Xv rfl (v_addi (c := ((k + 1 + 1 : Nat) : Int)) rfl rfl (by omega) (by omega)) ?_
   refine Xm ?_
   refine Xv (v := Vi ((qn od (k + 1) / 6 : Nat) : Int)) rfl (v_quoN rfl rfl (by decide) (by have h9 := hq (k + 1); omega)) ?_
   refine Xv (v := Vi ((qn od (k + 1) / 6 % 5 : Nat) : Int)) rfl (v_remN rfl rfl (by decide)) ?_
   refine Xv rfl (v_addi (c := ((k + 1 + 1 + qn od (k + 1) / 6 % 5 : Nat) : Int)) rfl rfl (by omega) (by omega)) ?_
   refine Xm ?_
   refine Xv (v := Vi ((inV (qn od) n (k + 1) : Nat) : Int)) rfl (by rw [show ((inV (qn od) n (k + 1) : Nat) : Int) = min (((k + 1 + 1 + qn od (k + 1) / 6 % 5 : Nat)) : Int) ((n : Nat) : Int) from by rw [hiv]; omega]; exact v_min rfl rfl) ?_
   refine Xv rfl (v_indexAddr u25 sz3 rfl rfl (by omega) rfl) ?_
   refine x_store (cs := (inL (qn od) n k).map (Value.int .i64)) (off := k + 1) (e := 3) (l2 := rowO 28 R) [] rfl (by show some (Value.pointer (some ⟨p30, 0 + (k + 1) * 1, none⟩)) = _; rw [Nat.zero_add, Nat.mul_one]) rfl rfl sz3 rfl (by rw [List.length_map, inL_len]; omega) ?_
   refine x_mem (own' := (Bk p30 ((inL (qn od) n (k + 1)).map (Value.int .i64)) 3) :: rowO 28 R) (fun _ h => h.to (by rw [← inL_set hkl]; simp only [List.nil_append]; rw [show (Vi ((inV (qn od) n (k + 1) : Nat) : Int)).cells.toList = [Vi ((inV (qn od) n (k + 1) : Nat) : Int)] from rfl, set_row (by rw [List.length_map, inL_len]; omega), List.map_set])) ?_
   refine Ze (Zt (Zr ?_))
   refine Xm ?_
   refine Xm ?_
   refine Xv rfl (v_addi rfl rfl rfl Zo) ?_
   refine Xm ?_
   refine Xm ?_
   refine Xm ?_
   refine Xv rfl (v_indexAddr u25 sz3 rfl rfl (by omega) rfl) ?_
   refine Xl rfl u3 rfl (at_ownL (vs := (inL (qn od) n (k + 1)).map (Value.int .i64)) (v := Vi ((inV (qn od) n (k + 1) : Nat) : Int)) (.head _) (by rw [Nat.zero_add, Nat.mul_one, List.getElem?_map, List.getElem?_eq_getElem (by rw [inL_len]; omega), inL_at (by omega), if_pos (by omega)]; rfl)) ?_
   refine Xv (v := Value.agg ((fM8 (qn od) n (k + 1))).cells.toArray) rfl (v_buildL (cs := ((fM8 (qn od) n (k + 1))).cells) (places := [(0, 1), (1, 1), (2, 1), (3, 1), (4, 1), (5, 1)]) u28 zr28 Zk rfl rfl) ?_
   refine x_buildSliceL (cs := (fM8 (qn od) n (k + 1)).cells) rfl rfl rfl u24 sz28 zr28 rfl rfl rfl ?_
   intro p102
   refine x_append (e := 28) [(p102, Obj.cells ((fM8 (qn od) n (k + 1))).cells.toArray 28 (0, 0)), (Bk p30 ((inL (qn od) n (k + 1)).map (Value.int .i64)) 3)] (l2 := []) R (len := (nwsL8 n ++ (mxL8 (qn od) n k ++ (one8 (nmq (qn od) (k + 1)) (fR8 (k + 1))))).length) (xs := fdsC (nwsL8 n ++ (mxL8 (qn od) n k ++ (one8 (nmq (qn od) (k + 1)) (fR8 (k + 1)))))) rfl rfl rfl rfl (by simp) hR u24 ap28 rfl rfl (m := 1) (news := ((fM8 (qn od) n (k + 1))).cells) (fun i hi => at_ownL (vs := ((fM8 (qn od) n (k + 1))).cells) (.head _) (by rw [Nat.zero_add]; exact List.getElem?_eq_getElem hi)) rfl Zx (by omega) fun R9 hR9 => ?_
   refine Xa ?_
   refine Ze (b_norm (Zt (Zr ?_)))
   refine Xm ?_
   refine Xv rfl (v_addi rfl rfl rfl Zo) ?_
   refine Xa ?_
   refine Ze ?_
   exact l_norm (k + 1, R9) ⟨hkl, by rw [hmx, hB, List.length_append (bs := [fM8 (qn od) n (k + 1)]), fdsC_app (b := [fM8 (qn od) n (k + 1)])]; exact (by simpa [fdsC] using hR9)⟩ (by simp only; omega) (by dsimp only; rw [hmx, hB, List.length_append (bs := [fM8 (qn od) n (k + 1)])]; repeat (first | exact Sub.nil | refine Sub.cons rfl ?_)) (fun w1 h => (h.less (List.sublist_cons_self _ _) (fun _ h => h)).to (by simp))
  simp only [hb81, hb80, hb76, Qz, ne_eq] at hc81
  have hmr : ¬mrq (qn od) n (k + 1) = true := fun h9 => by have h8 := of_decide_eq_true h9; omega
  have hB : (one8 (mrq (qn od) n (k + 1)) (fM8 (qn od) n (k + 1))) = [] := if_neg hmr
  refine w_skip (b_norm (Zt (Zr ?_)))
  refine Xm ?_
  refine Xv rfl (v_addi rfl rfl rfl Zo) ?_
  refine Xa ?_
  refine Ze ?_
  exact l_norm (k + 1, R) ⟨hkl, by rw [hmx, hB, List.append_nil]; exact hR⟩ (by simp only; omega) (by dsimp only; rw [hmx, hB, List.append_nil]; repeat (first | exact Sub.nil | refine Sub.cons rfl ?_)) (fun w1 h => h.to (by dsimp only; rw [inL_same (inV_no hmr)]))
 simp only [hb47, Qz, ne_eq] at hc47
 obtain rfl : n = k := by omega
 have hXl9 := lin_len (q := qn od) (n := n)
 refine w_exit ?_
 refine t_exit ?_
 refine t_exit ?_
 refine b_hit ?_
 refine Zt (Zs (Zr ?_))
 refine x_own (τ := FM8) (fun x => Pt x.pf) (fun x => FOK x []) (fun x => FO x [] ++ ((Bk p30 ((inL (qn od) n n).map (Value.int .i64)) 3) :: rowO 28 R)) rfl rfl rfl Tryz.func16 Zk rfl (fun w1 hw1 => (k_New w1).mono fun e w2 ⟨x, h1, h2, h3, h4⟩ => ⟨x, h1, h4.base (by simp), h2, Mem.join2 hw1 h4⟩) fun x0 hx0 => ?_
 have hRX : rowOK 6 R (linX (qn od) n).length (fdsC (linX (qn od) n)) := hR
 refine Xa ?_
 refine Ze (Zt (Zs (Zs (Zr ?_))))
 refine Xa ?_
 refine Ze (Zt (w_block ?_))
 refine w_loop (σ := Nat × FM8) (fun z => z.1 ≤ (linX (qn od) n).length ∧ FOK z.2 (takeAll ((ordY bk (linX (qn od) n)).take z.1)) ∧ z.2.pf = x0.pf) (fun z => [(2, Value.bool bk), (7, Value.bool true), (8, Vi (n : Nat)), (9, rowV R (linX (qn od) n).length), (10, Value.slice (some ⟨p30, 0, none⟩) (n + 1) (n + 1)), (14, Pt x0.pf), (15, Vi (z.1 : Nat))]) (fun z => FO z.2 (takeAll ((ordY bk (linX (qn od) n)).take z.1)) ++ ((Bk p30 ((inL (qn od) n n).map (Value.int .i64)) 3) :: rowO 28 R)) (fun z => [(w, fun _ => True)]) (fun z => (linX (qn od) n).length - z.1) ((0, x0)) (⟨Nat.zero_le _, hx0, rfl⟩) (l_start Zu (fun _ h => h)) ?_
 rintro ⟨k, x⟩ ⟨hk, hx, px⟩
 refine w_state ([(2, Value.bool bk), (7, Value.bool true), (8, Vi (n : Nat)), (9, rowV R (linX (qn od) n).length), (10, Value.slice (some ⟨p30, 0, none⟩) (n + 1) (n + 1)), (14, Pt x0.pf), (15, Vi (k : Nat))]) (FO x (takeAll ((ordY bk (linX (qn od) n)).take k)) ++ ((Bk p30 ((inL (qn od) n n).map (Value.int .i64)) 3) :: rowO 28 R)) ([(w, fun _ => True)]) ?_
 dsimp only at hk hx px
 refine Zs (Zs (Zr ?_))
 refine Xm ?_
 refine Xm ?_
 refine Xv (v := Vi ((linX (qn od) n).length : Nat)) rfl (v_len_slice u24 rfl) ?_
 refine Xb rfl (v_lss rfl rfl) fun b108 hb108 => ?_
 refine Ze (Zt ?_)
 refine w_cond rfl (fun hc108 => ?_) fun hc108 => ?_
 ·simp only [hb108, Qz, ne_eq] at hc108
  have hkl : k < (linX (qn od) n).length := by omega
  obtain ⟨gX, csX, cpX, hRg, hcpX, hclX⟩ := fd_cell hRX hkl
  obtain ⟨gZ, csZ, cpZ, hRz, hcpZ, hclZ⟩ := fd_cell hRX (show (linX (qn od) n).length - 1 - k < (linX (qn od) n).length by omega)
  have hkY : k < (ordY bk (linX (qn od) n)).length := by rw [ordY_len]; exact hkl
  have hst := all_step hYr hYa (by omega) hkY
  refine w_skip (Zt (Zs (w_block (Zs (Zr ?_)))))
  refine Xm ?_
  refine Xm ?_
  refine Xv rfl (v_indexAddr u24 sz28 (congrArg (fun R => some (rowV R (linX (qn od) n).length)) hRg) rfl (hkl) rfl) ?_
  refine Xv rfl (v_loadN (vs := ((linX (qn od) n)[k]).cells) u28 rfl sz28 rfl (fun i hi => at_ownL (vs := csX) (by first | exact List.mem_append_right _ (.tail _ (by rw [hRg]; exact .head _)) | exact .tail _ (List.mem_append_right _ (.tail _ (by rw [hRg]; exact .head _)))) (by rw [Nat.zero_add]; exact (hclX i hi).trans (List.getElem?_eq_getElem hi)))) ?_
  refine x_alloc rfl rfl rfl zr28 ?_
  intro p16
  refine x_store0 [] rfl rfl rfl rfl sz28 rfl rfl ?_
  refine Ze (Zt ?_)
  refine w_seq_cut (σ := Unit) (fun z9 => True) (fun z9 => [(2, Value.bool bk), (7, Value.bool true), (8, Vi (n : Nat)), (9, rowV R (linX (qn od) n).length), (10, Value.slice (some ⟨p30, 0, none⟩) (n + 1) (n + 1)), (14, Pt x0.pf), (15, Vi (k : Nat)), (16, Pt p16)]) (fun z9 => (p16, Obj.cells ((ordY bk (linX (qn od) n))[k]).cells.toArray 28) :: (FO x (takeAll ((ordY bk (linX (qn od) n)).take k)) ++ ((Bk p30 ((inL (qn od) n n).map (Value.int .i64)) 3) :: rowO 28 R))) (fun z9 => [(w, fun _ => True)]) ?_ ?_
  ·refine w_seq ?_
   refine Zr ?_
   refine Xm ?_
   refine Ze (Zt ?_)
   refine w_cond rfl (fun hc115 => ?_) fun hc115 => ?_
   ·have hbk : bk = true := hc115
    refine Zr ?_
    refine Xm ?_
    refine Xm ?_
    refine Xv (v := Vi ((linX (qn od) n).length : Nat)) rfl (v_len_slice u24 rfl) ?_
    refine Xv rfl (v_subi (c := (((linX (qn od) n).length : Nat) : Int) - 1) rfl rfl rfl (by omega)) ?_
    refine Xm ?_
    refine Xv rfl (v_subi (c := (((linX (qn od) n).length - 1 - k : Nat) : Int)) rfl rfl (by omega) (by omega)) ?_
    refine Xv rfl (v_indexAddr u24 sz28 (congrArg (fun R => some (rowV R (linX (qn od) n).length)) hRz) rfl (by omega) rfl) ?_
    refine Xv rfl (v_loadN (vs := ((linX (qn od) n)[((linX (qn od) n).length - 1 - k)]).cells) u28 rfl sz28 rfl (fun i hi => at_ownL (vs := csZ) (by first | exact List.mem_append_right _ (.tail _ (by rw [hRz]; exact .head _)) | exact .tail _ (List.mem_append_right _ (.tail _ (by rw [hRz]; exact .head _)))) (by rw [Nat.zero_add]; exact (hclZ i hi).trans (List.getElem?_eq_getElem hi)))) ?_
    refine x_store0 [] rfl rfl rfl rfl sz28 rfl rfl ?_
    refine Ze ?_
    exact c_norm () trivial Zu (fun _ h => h.to (by subst hbk; rw [ordY_yes hkl]; rfl))
   have hbk : bk = false := hc115
   refine w_skip ?_
   exact c_norm () trivial Zu (fun _ h => h.to (by subst hbk; rw [ordY_no hkl]; rfl))
  rintro _ _
  refine Zs (Zr ?_)
  refine Xm ?_
  refine Xv (v := Value.agg ((ordY bk (linX (qn od) n))[k]).cells.toArray) rfl (v_load_blk u28 rfl rfl (.head _) (by exact sz28)) ?_
  refine x_mem (own' := FO x (takeAll ((ordY bk (linX (qn od) n)).take k)) ++ ((p16, Obj.cells ((ordY bk (linX (qn od) n))[k]).cells.toArray 28) :: ((Bk p30 ((inL (qn od) n n).map (Value.int .i64)) 3) :: rowO 28 R))) (fun _ h => h.perm List.perm_middle.symm) ?_
  refine x_turn (τ := FM8) (fst := #[]) (cap := #[]) (v := Vi 0) (fun y => FOK y ((takeAll ((ordY bk (linX (qn od) n)).take (k + 1)))) ∧ y.pf = x0.pf) (fun y => FO y ((takeAll ((ordY bk (linX (qn od) n)).take (k + 1)))) ++ ((p16, Obj.cells ((ordY bk (linX (qn od) n))[k]).cells.toArray 28) :: ((Bk p30 ((inL (qn od) n n).map (Value.int .i64)) 3) :: rowO 28 R))) rfl rfl rfl Tryz.func17 Zk rfl (fun w1 hw1 => by
   simp only [Array.empty_append, Array.append_empty]
   have h := k_Take (f := (ordY bk (linX (qn od) n))[k]) (L := ((p16, Obj.cells ((ordY bk (linX (qn od) n))[k]).cells.toArray 28) :: ((Bk p30 ((inL (qn od) n n).map (Value.int .i64)) 3) :: rowO 28 R))) hx (lin_in hn30.2 _ (hYp.mem_iff.1 (List.getElem_mem hkY))) (.head _) hL hw1
   rw [hst, px] at h
   exact h) ?_
  rintro x9 ⟨hx9, px9⟩
  refine Xb rfl (v_neq rfl rfl) fun b127 hb127 => ?_
  refine Ze (Zt ?_)
  refine w_cond rfl (fun hc127 => ?_) fun hc127 => ?_
  ·exact absurd (hb127.symm.trans hc127) (by decide)
  skip
  refine w_skip (b_norm (Zt (Zr ?_)))
  refine Xm ?_
  refine Xv rfl (v_addi rfl rfl rfl Zo) ?_
  refine Xa ?_
  refine Ze ?_
  exact l_norm (k + 1, x9) ⟨hkl, hx9, px9⟩ (by simp only; omega) Zu (fun _ h => h.less ((List.Sublist.refl _).append (List.sublist_cons_self _ _)) (fun _ h => h))
 simp only [hb108, Qz, ne_eq] at hc108
 obtain rfl : k = (linX (qn od) n).length := by omega
 have htk : takeAll ((ordY bk (linX (qn od) n)).take (linX (qn od) n).length) = (linP (qn od) n) := by rw [List.take_of_length_le (Nat.le_of_eq (ordY_len bk _)), hYt]
 rw [htk] at hx
 refine x_memW (own' := FO x (linP (qn od) n) ++ ((Bk p30 ((inL (qn od) n n).map (Value.int .i64)) 3) :: rowO 28 R)) (fun w1 h => h.to (by rw [htk])) ?_
 refine w_exit ?_
 refine t_exit ?_
 refine t_exit ?_
 refine b_hit ?_
 refine Zt (Zs (Zs (Zr ?_)))
 refine Xa ?_
 refine Ze (Zt (w_block ?_))
 refine w_loop (σ := Nat × FM8) (fun z => z.1 ≤ n ∧ FOK z.2 (linP (qn od) n) ∧ z.2.pf = x0.pf) (fun z => [(7, Value.bool true), (8, Vi (n : Nat)), (10, Value.slice (some ⟨p30, 0, none⟩) (n + 1) (n + 1)), (14, Pt x0.pf), (17, Vi (z.1 + 1 : Nat))]) (fun z => FO z.2 (linP (qn od) n) ++ ((Bk p30 ((inL (qn od) n n).map (Value.int .i64)) 3) :: rowO 28 R)) (fun z => [(w, fun _ => True)]) (fun z => n - z.1) ((0, x)) (⟨Nat.zero_le _, hx, px⟩) (l_start Zu (fun _ h => h)) ?_
 rintro ⟨k, x⟩ ⟨hk, hx, px⟩
 refine w_state ([(7, Value.bool true), (8, Vi (n : Nat)), (10, Value.slice (some ⟨p30, 0, none⟩) (n + 1) (n + 1)), (14, Pt x0.pf), (17, Vi (k + 1 : Nat))]) (FO x (linP (qn od) n) ++ ((Bk p30 ((inL (qn od) n n).map (Value.int .i64)) 3) :: rowO 28 R)) ([(w, fun _ => True)]) ?_
 dsimp only at hk hx px
 refine Zs (Zs (Zr ?_))
 refine Xm ?_
 refine Xm ?_
 refine Xb rfl (v_leq rfl rfl) fun b130 hb130 => ?_
 refine Ze (Zt ?_)
 refine w_cond rfl (fun hc130 => ?_) fun hc130 => ?_
 ·simp only [hb130, Qz, ne_eq] at hc130
  have hkl : k + 1 ≤ n := by omega
  refine w_skip (Zt (Zs (w_block (Zs (Zr ?_)))))
  refine Xm ?_
  refine Xa ?_
  refine Ze (Zt (Zs (w_block ?_)))
  refine w_loop (σ := Nat) (fun e => 1 ≤ e ∧ e ≤ n ∧ resF (linH (qn od) n) (wordsP ⟨#[97, 110, 121, 32, 116, 105, 116, 108, 101]⟩) ((k + 1 : Nat) : Int) = resF (linH (qn od) n) (wordsP ⟨#[97, 110, 121, 32, 116, 105, 116, 108, 101]⟩) (e : Int)) (fun e => [(7, Value.bool true), (8, Vi (n : Nat)), (10, Value.slice (some ⟨p30, 0, none⟩) (n + 1) (n + 1)), (14, Pt x0.pf), (17, Vi (k + 1 : Nat)), (18, Vi (e : Nat))]) (fun e => FO x (linP (qn od) n) ++ ((Bk p30 ((inL (qn od) n n).map (Value.int .i64)) 3) :: rowO 28 R)) (fun e => [(w, fun _ => True)]) (fun e => n - e) ((k + 1)) (⟨by omega, hkl, rfl⟩) (l_start Zu (fun _ h => h)) ?_
  rintro e ⟨he1, he2, her⟩
  refine w_state ([(7, Value.bool true), (8, Vi (n : Nat)), (10, Value.slice (some ⟨p30, 0, none⟩) (n + 1) (n + 1)), (14, Pt x0.pf), (17, Vi (k + 1 : Nat)), (18, Vi (e : Nat))]) (FO x (linP (qn od) n) ++ ((Bk p30 ((inL (qn od) n n).map (Value.int .i64)) 3) :: rowO 28 R)) ([(w, fun _ => True)]) ?_
  refine Zs (Zs (Zr ?_))
  refine Xm ?_
  refine Xm ?_
  refine Xv rfl (v_indexAddr u25 sz3 rfl rfl (by omega) rfl) ?_
  refine Xl rfl u3 rfl (at_ownL (vs := (inL (qn od) n n).map (Value.int .i64)) (v := Vi ((inV (qn od) n e : Nat) : Int)) (List.mem_append_right _ (.head _)) (by rw [Nat.zero_add, Nat.mul_one, List.getElem?_map, List.getElem?_eq_getElem (by rw [inL_len]; omega), inL_at (by omega), if_pos (by omega)]; rfl)) ?_
  refine Xb rfl (v_gtr rfl rfl) fun b138 hb138 => ?_
  refine Ze (Zt ?_)
  refine w_cond rfl (fun hc138 => ?_) fun hc138 => ?_
  ·simp only [hb138, Qz, ne_eq] at hc138
   have hiv0 : 0 < inV (qn od) n e := by omega
   have hv := inV_pos hiv0
   refine w_skip (Zt (w_block (Zr ?_)))
   refine Xm ?_
   refine Xm ?_
   refine Xv rfl (v_indexAddr u25 sz3 rfl rfl (by omega) rfl) ?_
   refine Xl rfl u3 rfl (at_ownL (vs := (inL (qn od) n n).map (Value.int .i64)) (v := Vi ((inV (qn od) n e : Nat) : Int)) (List.mem_append_right _ (.head _)) (by rw [Nat.zero_add, Nat.mul_one, List.getElem?_map, List.getElem?_eq_getElem (by rw [inL_len]; omega), inL_at (by omega), if_pos (by omega)]; rfl)) ?_
   refine Xa ?_
   refine Ze (b_norm ?_)
   exact l_norm (inV (qn od) n e) ⟨by omega, hv.2, her.trans (lin_go hn30.2 (wordsP ⟨#[97, 110, 121, 32, 116, 105, 116, 108, 101]⟩) he1 he2 hiv0)⟩ (by omega) Zu (fun _ h => h)
  simp only [hb138, Qz, ne_eq] at hc138
  have hiv0 : inV (qn od) n e = 0 := by omega
  have hre := her.trans (lin_end (wordsP ⟨#[97, 110, 121, 32, 116, 105, 116, 108, 101]⟩) he1 he2 hiv0)
  have hrs : resolveF (stF (linP (qn od) n)).hs (wordsP ⟨#[97, 110, 121, 32, 116, 105, 116, 108, 101]⟩) ((k + 1 : Nat) : Int) = (((e : Nat) : Int), true) := by rw [lin_st]; show resolveF (linH (qn od) n) _ _ = _; rw [lin_resolve (wordsP ⟨#[97, 110, 121, 32, 116, 105, 116, 108, 101]⟩) (by omega) hkl, hre]
  have hfd : findF (stF (linP (qn od) n)).hs (upB (k + 1)) = (((k + 1 : Nat) : Int), true) := by rw [lin_st]; exact lin_find hn30.2 (by omega) hkl
  have hup : (upB (k + 1)).size ≤ 4000000 := by
   have h9 := itoaS_size (n := ((k + 1 : Nat) : Int)) (by unfold in64; omega)
   unfold upB; rw [ByteArray.size_append]; show 5 + _ ≤ _; omega
  refine w_exit ?_
  refine t_exit ?_
  refine t_exit ?_
  refine b_hit ?_
  refine Zt (Zs (Zr ?_))
  refine Xm ?_
  refine Xm ?_
  refine x_turn (τ := FM8) (fst := #[]) (cap := #[]) (v := .tuple #[Vi (e : Nat), .bool true]) (fun y => FOK y ((linP (qn od) n)) ∧ y.pf = x0.pf) (fun y => FO y ((linP (qn od) n)) ++ ((Bk p30 ((inL (qn od) n n).map (Value.int .i64)) 3) :: rowO 28 R)) rfl rfl rfl Tryz.func18 Zk rfl (fun w1 hw1 => by
   simp only [Array.empty_append, Array.append_empty]
   have h := (by have h9 := k_Resolve (h := ((k + 1 : Nat) : Int)) (t := ⟨#[97, 110, 121, 32, 116, 105, 116, 108, 101]⟩) (L := ((Bk p30 ((inL (qn od) n n).map (Value.int .i64)) 3) :: rowO 28 R)) hx (by unfold in64; omega) (by decide +kernel) (.head _) hL hw1; rw [hrs] at h9; exact h9)
   rw [px] at h
   exact h) ?_
  rintro xa ⟨hxa, pxa⟩
  refine Xm ?_
  refine Xe ?_
  refine Xb rfl (v_extract rfl rfl) fun b148 hb148 => ?_
  obtain rfl : b148 = true := hb148
  refine Xa ?_
  refine Xa ?_
  refine Ze (Zt (Zs (Zr ?_)))
  refine Xm ?_
  refine Xm ?_
  refine x_callv rfl rfl rfl Tryz.func15 Zk rfl (fun w1 hw1 => r_Decimal _ w1 (by omega) (by unfold in64; omega)) ?_
  refine Xv rfl (v_sadd rfl rfl (by have h9 := itoaS_size (n := ((k + 1 : Nat) : Int)) (by unfold in64; omega); show 5 + _ ≤ _; omega)) ?_
  refine x_turn (τ := FM8) (fst := #[]) (cap := #[]) (v := .tuple #[Vi ((k + 1 : Nat) : Int), .bool true]) (fun y => FOK y ((linP (qn od) n)) ∧ y.pf = x0.pf) (fun y => FO y ((linP (qn od) n)) ++ ((Bk p30 ((inL (qn od) n n).map (Value.int .i64)) 3) :: rowO 28 R)) rfl rfl rfl Tryz.func19 Zk rfl (fun w1 hw1 => by
   simp only [Array.empty_append, Array.append_empty]
   have h := (by have h9 := k_Find (t := upB (k + 1)) (L := ((Bk p30 ((inL (qn od) n n).map (Value.int .i64)) 3) :: rowO 28 R)) hxa hup (.head _) hL hw1; rw [hfd] at h9; exact h9)
   rw [pxa] at h
   exact h) ?_
  rintro xb ⟨hxb, pxb⟩
  refine Xm ?_
  refine Xe ?_
  refine Xb rfl (v_extract rfl rfl) fun b156 hb156 => ?_
  obtain rfl : b156 = true := hb156
  refine Xa ?_
  refine Xa ?_
  refine Ze (Zt (Zs (Zr ?_)))
  refine Xm ?_
  refine Xb rfl (v_not rfl) fun b158 hb158 => ?_
  obtain rfl : b158 = false := hb158
  refine Xm ?_
  refine x_valg rfl rfl rfl rfl rfl (v_move rfl) ?_
  refine x_valg rfl rfl rfl rfl rfl (v_move rfl) ?_
  refine x_boolg rfl rfl rfl rfl rfl (v_neq rfl rfl) fun b162 hb162 => ?_
  obtain rfl : b162 = false := hb162.trans (by simp)
  refine Xb rfl (v_or rfl rfl) fun b163 hb163 => ?_
  obtain rfl : b163 = false := hb163
  refine Xm ?_
  refine x_valg rfl rfl rfl rfl rfl (v_move rfl) ?_
  refine x_boolg rfl rfl rfl rfl rfl (v_not rfl) fun b166 hb166 => ?_
  obtain rfl : b166 = false := hb166
  refine Xb rfl (v_or rfl rfl) fun b167 hb167 => ?_
  obtain rfl : b167 = false := hb167
  refine Xm ?_
  refine x_valg rfl rfl rfl rfl rfl (v_move rfl) ?_
  refine x_valg rfl rfl rfl rfl rfl (v_move rfl) ?_
  refine x_boolg rfl rfl rfl rfl rfl (v_neq rfl rfl) fun b171 hb171 => ?_
  obtain rfl : b171 = false := hb171.trans (by simp)
  refine Xb rfl (v_or rfl rfl) fun b172 hb172 => ?_
  obtain rfl : b172 = false := hb172
  refine Ze (Zt ?_)
  refine w_cond rfl (fun hc172 => ?_) fun hc172 => ?_
  ·cases hc172
  skip
  refine w_skip (b_norm (Zt (Zr ?_)))
  refine Xm ?_
  refine Xv rfl (v_addi rfl rfl rfl Zo) ?_
  refine Xa ?_
  refine Ze ?_
  exact l_norm (k + 1, xb) ⟨hkl, hxb, pxb⟩ (by simp only; omega) Zu (fun _ h => h)
 skip
 refine w_exit ?_
 refine t_exit ?_
 refine t_exit ?_
 refine b_hit ?_
 refine Zt (Zs (Zr ?_))
 refine Xm ?_
 refine Xm ?_
 refine x_valg rfl rfl rfl rfl rfl (v_move rfl) ?_
 refine x_turnVg (τ := RowS × FM8) (fun z => rowV z.1 (stF (linP (qn od) n)).ref.length) (fun z => rowOK 6 z.1 (stF (linP (qn od) n)).ref.length (fdsC (stF (linP (qn od) n)).ref) ∧ FOK z.2 (linP (qn od) n) ∧ z.2.pf = x0.pf) (fun z => FO z.2 (linP (qn od) n) ++ (rowO 28 z.1 ++ ((Bk p30 ((inL (qn od) n n).map (Value.int .i64)) 3) :: rowO 28 R))) rfl rfl rfl rfl Tryz.func20 Zk rfl (fun w1 hw1 => by
  have h := k_Refused (L := ((Bk p30 ((inL (qn od) n n).map (Value.int .i64)) 3) :: rowO 28 R)) hx (.head _) hL hw1
  rw [px] at h
  exact h.mono fun e w2 ⟨R, h1, h2, y, ⟨h3, h4⟩, h5⟩ => ⟨(R, y), h1, ⟨h2, h3, h4⟩, h5⟩) ?_
 rintro ⟨R8, x8⟩ ⟨hR8, hx8, px8⟩
 refine x_valg (v := Vi ((stF (linP (qn od) n)).ref.length : Nat)) rfl rfl rfl rfl rfl (v_len_slice u24 rfl) ?_
 refine x_boolg rfl rfl rfl rfl rfl (v_eql rfl rfl) fun b178 hb178 => ?_
 obtain rfl : b178 = true := hb178.trans (by rw [lin_st]; rfl)
 refine Xb rfl (v_and rfl rfl) fun b179 hb179 => ?_
 obtain rfl : b179 = true := hb179
 refine Xa ?_
 refine Ze (Zt (w_ret ?_))
 exact ret1 rfl rfl (fun w' hm => ⟨rfl, hm.base (by simp)⟩)
end Go.Proofs.YtnflcekodobdlaaGreatDoor
