/- Of the proofs of YtnflcekodobdlaaGreatDoor: Da Db Dc Dd De Ea Df Eb Ec Ed Ee Ef Fa Eg Eh Fb Fc, put together. -/
import Derived.Test.YtnflcekodobdlaaGreatDoorV6
import Derived.Test.YtnflcekodobdlaaGreatDoorV3
import Derived.Test.YtnflcekodobdlaaGreatDoorV1
import Derived.Test.YtnflcekodobdlaaGreatDoorV2
import Derived.Test.YtnflcekodobdlaaGreatDoorV4
import Derived.Test.YtnflcekodobdlaaGreatDoorV5
set_option linter.unusedVariables false
set_option linter.unusedSimpArgs false
set_option maxRecDepth 100000

namespace Go.Proofs.YtnflcekodobdlaaGreatDoor
open Go.RowKit Go.PK
set_option maxHeartbeats 1000000 in
theorem r_Words (s : ByteArray) (w : World) (hs : s.size ≤ 4000000) :
  Calls Tryz.prog 21 #[.string s] w fun e w' => ∃ r, e = .returned (rowV r (wordsP s).length) ∧ rowOK 1 r (wordsP s).length ((wordsP s).map Value.string) ∧ Mem w' (rowO 9 r) [(w, fun _ => True)] := by
 refine enter (vs := [.string s]) Tryz.func21 rfl Tryz.ntmps21 rfl ?_
 refine Zs (Zr ?_)
 refine Xa ?_
 refine Ze (Zt (Zs (Zr ?_)))
 refine Xa ?_
 refine Ze (Zt (Zs (Zr ?_)))
 refine Xa ?_
 refine Ze (Zt (Zs (Zr ?_)))
 refine Xm ?_
 refine x_runes rfl rfl rfl u9 u100 u21 rfl (by omega) fun p9 cp9 cs9 hcp9 hcs9 hcl9 => ?_
 refine Xa ?_
 refine Ze (Zt (Zs (Zs (Zr ?_))))
 refine Xa ?_
 refine Ze (Zt (w_block ?_))
 refine w_loop (σ := Nat × RowS × List ByteArray × ByteArray) (fun z => z.1 ≤ (runes s).length ∧ rowOK 1 z.2.1 z.2.2.1.length (z.2.2.1.map Value.string) ∧ z.2.2.1 ++ wordsF ((runes s).drop z.1) z.2.2.2 = wordsP s ∧ z.2.2.2.size + wgt ((runes s).drop z.1) ≤ s.size) (fun z => [(3, rowV z.2.1 z.2.2.1.length), (4, Value.string z.2.2.2), (5, Value.slice (some ⟨p9, 0, none⟩) (runes s).length cp9), (6, Vi (z.1 : Nat))]) (fun z => (Bk p9 cs9 21) :: rowO 9 z.2.1) (fun z => [(w, fun _ => True)]) (fun z => (runes s).length - z.1) ((0, none, [], ⟨#[]⟩)) (⟨Nat.zero_le _, rowOK_nil, rfl, by have := wgt_runes s; show 0 + wgt (runes s) ≤ _; omega⟩) (l_start Zu (fun _ h => h)) ?_
 rintro ⟨k, r, ws, wd⟩ ⟨hk, hr, hws, hsz⟩
 refine w_state ([(3, rowV r ws.length), (4, Value.string wd), (5, Value.slice (some ⟨p9, 0, none⟩) (runes s).length cp9), (6, Vi (k : Nat))]) ((Bk p9 cs9 21) :: rowO 9 r) ([(w, fun _ => True)]) ?_
 dsimp only at hk hr hws hsz
 have hrl0 : (runes s).length ≤ s.size := runes_len s s.size 0 (by omega)
 refine Zs (Zs (Zr ?_))
 refine Xm ?_
 refine Xm ?_
 refine Xv (v := Vi ((runes s).length : Nat)) rfl (v_len_slice u100 rfl) ?_
 refine Xb rfl (v_lss rfl rfl) fun b13 hb13 => ?_
 refine Ze (Zt ?_)
 refine w_cond rfl (fun hc13 => ?_) fun hc13 => ?_
 ·simp only [hb13, Qz, ne_eq] at hc13
  have hkl : k < (runes s).length := by omega
  have hdr : (runes s).drop k = (runes s)[k] :: (runes s).drop (k + 1) := List.drop_eq_getElem_cons hkl
  rw [hdr] at hws hsz
  rw [wgt_cons] at hsz
  have hwl : ws.length ≤ s.size + 1 := by
   have h1 := wordsP_len s
   rw [← hws, List.length_append] at h1
   omega
  have hcell9 : cs9[k]? = some (Value.int .i32 ((runes s)[k] : Nat)) := by
   rw [← List.getElem?_take_of_lt hkl, hcs9]; exact runeC_at hkl
  have hrl := runes_le s _ (List.getElem_mem hkl)
  refine w_skip (Zt (Zs (w_block (Zs (Zr ?_)))))
  refine Xm ?_
  refine Xm ?_
  refine Xv rfl (v_indexAddr u100 sz21 rfl rfl (hkl) rfl) ?_
  refine Xl rfl u21 rfl (at_ownL (vs := cs9) (.head _) (by rw [Nat.zero_add, Nat.mul_one]; exact hcell9)) ?_
  refine x_callv rfl rfl rfl Tryz.func52 Zk rfl (fun w1 hw1 => k_Char (runes s)[k] hrl w1) ?_
  refine Xa ?_
  refine Ze (Zt (Zs (Zs (Zr ?_))))
  refine Xm ?_
  refine Xb rfl (v_sneq rfl rfl) fun b22 hb22 => ?_
  refine Ze (Zt ?_)
  refine w_cond rfl (fun hc22 => ?_) fun hc22 => ?_
  ·simp only [hb22, Qz, ne_eq] at hc22
   have hne : foldC (runes s)[k] ≠ spcB := hc22
   rw [wf_go hne] at hws
   refine Zs (Zr ?_)
   refine Xm ?_
   refine Xm ?_
   refine Xv rfl (v_sadd rfl rfl (by omega)) ?_
   refine Xa ?_
   refine Ze (Zt ?_)
   refine w_exit ?_
   refine t_exit ?_
   refine b_hit ?_
   refine Zt (Zr ?_)
   refine Xm ?_
   refine Xv rfl (v_addi rfl rfl rfl Zo) ?_
   refine Xa ?_
   refine Ze ?_
   exact l_norm (k + 1, r, ws, wd ++ foldC (runes s)[k]) ⟨hkl, hr, hws, by dsimp only; rw [ByteArray.size_append]; omega⟩ (by simp only; omega) Zu (fun _ h => h)
  simp only [hb22, Qz, ne_eq] at hc22
  have heq : foldC (runes s)[k] = spcB := hc22
  refine w_skip (Zt (Zs (Zs (Zr ?_))))
  refine Xm ?_
  refine Xb rfl (v_sneq rfl rfl) fun b27 hb27 => ?_
  refine Ze (Zt ?_)
  refine w_cond rfl (fun hc27 => ?_) fun hc27 => ?_
  ·simp only [hb27, Qz, ne_eq] at hc27
   have hw0 : wd.size ≠ 0 := fun h => hc27 (ba_nil.2 h)
   rw [wf_cut heq hw0] at hws
   refine Zr ?_
   refine Xm ?_
   refine Xm ?_
   refine x_buildSliceL (cs := [Value.string wd]) rfl rfl rfl u38 sz9 zr9 rfl rfl rfl ?_
   intro p30
   refine x_append (e := 9) [(p30, _), (p9, _)] (l2 := []) r (len := ws.length) (xs := ws.map Value.string) rfl rfl rfl rfl (by rw [List.append_nil]; rfl) hr u38 ap9 rfl rfl (m := 1) (news := [Value.string wd]) (fun i hi => at_ownL (vs := [Value.string wd]) (.head _) (by rw [Nat.zero_add]; exact List.getElem?_eq_getElem hi)) rfl Zx (by omega) fun r' hr' => ?_
   refine Xa ?_
   refine Ze (Zt (Zr ?_))
   refine Xa ?_
   refine Ze (b_norm (Zt (Zr ?_)))
   refine Xm ?_
   refine Xv rfl (v_addi rfl rfl rfl Zo) ?_
   refine Xa ?_
   refine Ze ?_
   exact l_norm (k + 1, r', ws ++ [wd], ⟨#[]⟩) ⟨hkl, by dsimp only; rw [strC_snoc, List.length_append]; exact hr', by dsimp only; rw [List.append_assoc]; exact hws, by show 0 + wgt ((runes s).drop (k + 1)) ≤ _; omega⟩ (by simp only; omega) (by dsimp only; rw [List.length_append]; exact Zu) (fun _ h => by
    have h2 := h.less (List.sublist_append_left _ _) (fun _ h => h)
    exact h2.less (List.sublist_cons_self _ _) (fun _ h => h))
  simp only [hb27, Qz, ne_eq] at hc27
  have hw0 : wd.size = 0 := ba_nil.1 (by simpa using hc27)
  rw [wf_blank heq hw0] at hws
  refine w_skip (Zt (Zr ?_))
  refine Xa ?_
  refine Ze (b_norm (Zt (Zr ?_)))
  refine Xm ?_
  refine Xv rfl (v_addi rfl rfl rfl Zo) ?_
  refine Xa ?_
  refine Ze ?_
  exact l_norm (k + 1, r, ws, ⟨#[]⟩) ⟨hkl, hr, hws, by show 0 + wgt ((runes s).drop (k + 1)) ≤ _; omega⟩ (by simp only; omega) Zu (fun _ h => h)
 simp only [hb13, Qz, ne_eq] at hc13
 obtain rfl : k = (runes s).length := by omega
 rw [List.drop_length, wf_stop] at hws
 have hwl : ws.length ≤ s.size + 1 := by
  have h1 := wordsP_len s
  rw [← hws, List.length_append] at h1
  omega
 refine w_exit ?_
 refine t_exit ?_
 refine t_exit ?_
 refine b_hit ?_
 refine Zt (Zs (Zs (Zr ?_)))
 refine Xm ?_
 refine Xb rfl (v_sneq rfl rfl) fun b33 hb33 => ?_
 refine Ze (Zt ?_)
 refine w_cond rfl (fun hc33 => ?_) fun hc33 => ?_
 ·simp only [hb33, Qz, ne_eq] at hc33
  have hw0 : wd.size ≠ 0 := fun h => hc33 (ba_nil.2 h)
  rw [if_neg hw0] at hws
  refine Zr ?_
  refine Xm ?_
  refine Xm ?_
  refine x_buildSliceL (cs := [Value.string wd]) rfl rfl rfl u38 sz9 zr9 rfl rfl rfl ?_
  intro p36
  refine x_append (e := 9) [(p36, _), (p9, _)] (l2 := []) r (len := ws.length) (xs := ws.map Value.string) rfl rfl rfl rfl (by rw [List.append_nil]; rfl) hr u38 ap9 rfl rfl (m := 1) (news := [Value.string wd]) (fun i hi => at_ownL (vs := [Value.string wd]) (.head _) (by rw [Nat.zero_add]; exact List.getElem?_eq_getElem hi)) rfl Zx (by omega) fun r' hr' => ?_
  refine Xa ?_
  refine Ze (Zt (Zs (Zr ?_)))
  refine Xm ?_
  refine Xa ?_
  refine Ze (Zt (w_ret ?_))
  exact ret1 rfl rfl (fun w' hm => ⟨r', by rw [← hws, List.length_append]; rfl, by rw [← hws, List.length_append, strC_snoc]; exact hr', by
   have h2 := hm.less (List.sublist_append_left _ _) (fun _ h => h)
   exact h2.less ((List.sublist_cons_self _ _).trans (List.sublist_cons_self _ _)) (fun _ h => h)⟩)
 simp only [hb33, Qz, ne_eq] at hc33
 have hw0 : wd.size = 0 := ba_nil.1 (by simpa using hc33)
 rw [if_pos hw0, List.append_nil] at hws
 refine w_skip (Zt (Zs (Zr ?_)))
 refine Xm ?_
 refine Xa ?_
 refine Ze (Zt (w_ret ?_))
 exact ret1 rfl rfl (fun w' hm => ⟨r, by rw [← hws], by rw [← hws]; exact hr, hm.less (List.sublist_cons_self _ _) (fun _ h => h)⟩)
theorem e_app (a : ByteArray) : (⟨#[]⟩ : ByteArray) ++ a = a := by
 apply ByteArray.ext
 simp
theorem join_step (xs : List ByteArray) {k : Nat} (h : k < xs.length) : (joinS (xs.take k)).size ≤ (joinS (xs.take (k + 1))).size := by
 rw [List.take_succ_eq_append_getElem h, joinS_snoc]
 split
 ·rename_i h1; rw [h1]; exact Nat.zero_le _
 rw [ByteArray.size_append, ByteArray.size_append]; omega
theorem join_mono (xs : List ByteArray) : ∀ n k, k + n = xs.length → (joinS (xs.take k)).size ≤ (joinS xs).size
 | 0, k, h => by rw [List.take_of_length_le (by omega)]; exact Nat.le_refl _
 | n + 1, k, h => Nat.le_trans (join_step xs (by omega)) (join_mono xs n (k + 1) (by omega))
set_option maxHeartbeats 1000000 in
theorem r_Join {xs : List ByteArray} {r : RowS} (w : World) (hr : PK.rowR 9 1 (fun x : ByteArray => [Value.string x]) r xs w) (hl : xs.length ≤ 100000000) (hj : (joinS xs).size ≤ 100000000000) :
  Calls Tryz.prog 53 #[rowV r xs.length] w fun e w' => e = .returned (.string (joinS xs)) ∧ Later w w' := by
 refine enter (vs := [rowV r xs.length]) Tryz.func53 rfl Tryz.ntmps53 rfl ?_
 refine Zs (Zr ?_)
 refine Xa ?_
 refine Ze (Zt (Zs (Zr ?_)))
 refine Xa ?_
 refine Ze (Zt (Zs (Zs (Zr ?_))))
 refine Xa ?_
 refine Ze (Zt (w_block ?_))
 refine w_loop (σ := Nat) (fun k => k ≤ xs.length) (fun k => [(0, rowV r xs.length), (3, Value.string (joinS (xs.take k))), (4, Vi (k : Nat))]) (fun k => []) (fun k => [(w, fun _ => True)]) (fun k => xs.length - k) (0) (Nat.zero_le _) (l_start Zu (fun _ h => h)) ?_
 rintro k hk
 refine w_state ([(0, rowV r xs.length), (3, Value.string (joinS (xs.take k))), (4, Vi (k : Nat))]) ([]) ([(w, fun _ => True)]) ?_
 refine Zs (Zs (Zr ?_))
 refine Xm ?_
 refine Xm ?_
 refine Xv (v := Vi (xs.length : Nat)) rfl (v_len_slice u38 rfl) ?_
 refine Xb rfl (v_lss rfl rfl) fun b8 hb8 => ?_
 refine Ze (Zt ?_)
 refine w_cond rfl (fun hc8 => ?_) fun hc8 => ?_
 ·simp only [hb8, Qz, ne_eq] at hc8
  have hkl : k < xs.length := by omega
  obtain ⟨g, cs, cp, hRg, hcp, hcl⟩ := hr.cells (c := (fun x : ByteArray => [Value.string x])) (m := 1) (fun _ => rfl) (by decide) hkl
  have hst : joinS (xs.take (k + 1)) = if k = 0 then xs[k] else joinS (xs.take k) ++ spcB ++ xs[k] := by
   rw [List.take_succ_eq_append_getElem hkl, joinS_snoc]
   by_cases h : k = 0
   ·subst h; rfl
   rw [if_neg h, if_neg (fun e => h (by have := congrArg List.length e; simpa [List.length_take, Nat.min_eq_left (Nat.le_of_lt hkl)] using this))]
  have hz1 := join_mono xs (xs.length - k) k (by omega)
  have hz2 := join_mono xs (xs.length - (k + 1)) (k + 1) (by omega)
  have hz3 : (spcB : ByteArray).size = 1 := rfl
  refine w_skip (Zt (Zs (w_block (Zs (Zs (Zr ?_))))))
  refine Xm ?_
  refine Xb rfl (v_gtr rfl rfl) fun b12 hb12 => ?_
  refine Ze (Zt ?_)
  refine w_cond rfl (fun hc12 => ?_) fun hc12 => ?_
  ·simp only [hb12, Qz, ne_eq] at hc12
   rw [if_neg (show ¬k = 0 by omega)] at hst
   have hz4 := congrArg ByteArray.size hst
   rw [ByteArray.size_append, ByteArray.size_append] at hz4
   refine Zr ?_
   refine Xm ?_
   refine Xv (v := Value.string (joinS (xs.take k) ++ spcB)) rfl (v_sadd rfl rfl (by show (joinS (xs.take k)).size + spcB.size ≤ _; omega)) ?_
   refine Xa ?_
   refine Ze (Zt (Zr ?_))
   refine Xm ?_
   refine Xm ?_
   refine Xm ?_
   refine Xv rfl (v_indexAddr u38 sz9 (congrArg (fun R => some (rowV R xs.length)) hRg) rfl (hkl) rfl) ?_
   refine Xl rfl u9 rfl (at_ro (.head _) trivial (v := Value.string xs[k]) (by rw [Nat.zero_add]; exact hcl 0 (by decide))) ?_
   refine Xv rfl (v_sadd rfl rfl (by first | omega | (rw [ByteArray.size_append]; omega))) ?_
   refine Xa ?_
   refine Ze (b_norm (Zt (Zr ?_)))
   refine Xm ?_
   refine Xv rfl (v_addi rfl rfl rfl Zo) ?_
   refine Xa ?_
   refine Ze ?_
   exact l_norm (k + 1) hkl (by omega) (by rw [hst]; exact Zu) (fun _ h => h)
  simp only [hb12, Qz, ne_eq] at hc12
  have hk0 : k = 0 := by omega
  rw [if_pos hk0] at hst
  have hst2 : joinS (xs.take (k + 1)) = joinS (xs.take k) ++ xs[k] := by
   rw [hst]
   have e0 : joinS (xs.take k) = ⟨#[]⟩ := by subst hk0; rfl
   rw [e0, e_app]
  have hz4 := congrArg ByteArray.size hst2
  rw [ByteArray.size_append] at hz4
  refine w_skip (Zt (Zr ?_))
  refine Xm ?_
  refine Xm ?_
  refine Xm ?_
  refine Xv rfl (v_indexAddr u38 sz9 (congrArg (fun R => some (rowV R xs.length)) hRg) rfl (hkl) rfl) ?_
  refine Xl rfl u9 rfl (at_ro (.head _) trivial (v := Value.string xs[k]) (by rw [Nat.zero_add]; exact hcl 0 (by decide))) ?_
  refine Xv rfl (v_sadd rfl rfl (by first | omega | (rw [ByteArray.size_append]; omega))) ?_
  refine Xa ?_
  refine Ze (b_norm (Zt (Zr ?_)))
  refine Xm ?_
  refine Xv rfl (v_addi rfl rfl rfl Zo) ?_
  refine Xa ?_
  refine Ze ?_
  exact l_norm (k + 1) hkl (by omega) (by rw [hst2]; exact Zu) (fun _ h => h)
 simp only [hb8, Qz, ne_eq] at hc8
 obtain rfl : k = xs.length := by omega
 refine w_exit ?_
 refine t_exit ?_
 refine t_exit ?_
 refine b_hit ?_
 refine Zt (Zs (Zr ?_))
 refine Xm ?_
 refine Xa ?_
 refine Ze (Zt (w_ret ?_))
 refine ret1 rfl rfl (fun w' hm => ⟨?_, hm.base (by simp)⟩)
 rw [List.take_length]
theorem r_Fold (s : ByteArray) (w : World) (hs : s.size ≤ 4000000) :
  Calls Tryz.prog 22 #[.string s] w fun e w' => e = .returned (.string (foldS s)) ∧ Later w w' := by
 refine enter (vs := [.string s]) Tryz.func22 rfl Tryz.ntmps22 rfl ?_
 refine Zs (Zr ?_)
 refine Xa ?_
 refine Ze (Zt (Zs (Zr ?_)))
 refine Xm ?_
 refine x_own (τ := RowS) (fun r => rowV r (wordsP s).length) (fun r => rowOK 1 r (wordsP s).length ((wordsP s).map Value.string)) (fun r => rowO 9 r) rfl rfl rfl Tryz.func21 Zk rfl (fun w1 hw1 => (r_Words s w1 hs).mono fun e w2 ⟨r, h1, h2, h3⟩ => ⟨r, h1, h3.base (by simp), h2, hw1.join h3⟩) fun r hr => ?_
 refine x_callv (v := Value.string (foldS s)) rfl rfl rfl Tryz.func53 Zk rfl (fun w1 hw1 => r_Join w1 (hw1.rowR (by rw [flat1]; exact hr) (fun q hq => hq)) (by have := wordsP_len s; omega) (by have := foldS_size s; unfold foldS at this; omega)) ?_
 refine Xa ?_
 refine Ze (Zt (w_ret ?_))
 refine ret1 rfl rfl (fun w' hm => ⟨?_, hm.base (by simp)⟩)
 rfl
open Go.RowKit Go.PK
set_option maxHeartbeats 1000000 in
theorem r_Right (x : FD) (w : World) (hs : x.txt.size ≤ 4000000) :
  Calls Tryz.prog 55 #[Value.agg x.cells.toArray] w fun e w' => e = .returned (.bool (decide (rightF x))) ∧ Later w w' := by
 refine enter (vs := [Value.agg x.cells.toArray]) Tryz.func55 rfl Tryz.ntmps55 rfl ?_
 refine Zs (Zr ?_)
 refine x_box rfl rfl rfl rfl ?_
 intro p1
 refine Xa ?_
 refine Ze (Zt (Zs (Zs (Zr ?_))))
 refine Xf 0 rfl u28 rfl sz3 ?_
 refine Xl rfl u3 rfl (at_ownL (vs := x.cells) (.head _) rfl) ?_
 refine Xb rfl (v_lss rfl rfl) fun b6 hb6 => ?_
 refine Xm ?_
 refine Xi rfl rfl rfl (fun hg0 => by subst hg0; (try simp only [Qy]); exact v_fieldAddr (off' := 1) u28 rfl sz3 (by decide) rfl rfl) ?_
 refine Xi rfl rfl rfl (fun hg0 => by subst hg0; (try simp only [Qy]); exact v_load u3 rfl rfl (at_ownL (vs := x.cells) (.head _) rfl)) ?_
 refine Xj rfl rfl rfl (fun hg0 => by subst hg0; (try simp only [Qy]); exact v_lss rfl rfl) fun b10 hb10 => ?_
 refine Xb rfl (v_or rfl rfl) fun b11 hb11 => ?_
 refine Xm ?_
 refine Xi rfl rfl rfl (fun hg0 => by subst hg0; (try simp only [Qy]); exact v_fieldAddr (off' := 3) u28 rfl sz3 (by decide) rfl rfl) ?_
 refine Xi rfl rfl rfl (fun hg0 => by subst hg0; (try simp only [Qy]); exact v_load u3 rfl rfl (at_ownL (vs := x.cells) (.head _) rfl)) ?_
 refine Xj rfl rfl rfl (fun hg0 => by subst hg0; (try simp only [Qy]); exact v_lss rfl rfl) fun b15 hb15 => ?_
 refine Xb rfl (v_or rfl rfl) fun b16 hb16 => ?_
 refine Xm ?_
 refine Xi rfl rfl rfl (fun hg0 => by subst hg0; (try simp only [Qy]); exact v_fieldAddr (off' := 2) u28 rfl sz3 (by decide) rfl rfl) ?_
 refine Xi rfl rfl rfl (fun hg0 => by subst hg0; (try simp only [Qy]); exact v_load u3 rfl rfl (at_ownL (vs := x.cells) (.head _) rfl)) ?_
 refine Xj rfl rfl rfl (fun hg0 => by subst hg0; (try simp only [Qy]); exact v_lss rfl rfl) fun b20 hb20 => ?_
 refine Xb rfl (v_or rfl rfl) fun b21 hb21 => ?_
 refine Xm ?_
 refine Xi rfl rfl rfl (fun hg0 => by subst hg0; (try simp only [Qy]); exact v_fieldAddr (off' := 2) u28 rfl sz3 (by decide) rfl rfl) ?_
 refine Xi rfl rfl rfl (fun hg0 => by subst hg0; (try simp only [Qy]); exact v_load u3 rfl rfl (at_ownL (vs := x.cells) (.head _) rfl)) ?_
 refine Xj rfl rfl rfl (fun hg0 => by subst hg0; (try simp only [Qy]); exact v_gtr rfl rfl) fun b25 hb25 => ?_
 refine Xb rfl (v_or rfl rfl) fun b26 hb26 => ?_
 refine Ze (Zt ?_)
 refine w_cond rfl (fun hc26 => ?_) fun hc26 => ?_
 ·simp only [hb26, hb25, hb21, hb20, hb16, hb15, hb11, hb10, hb6, Qz, ne_eq] at hc26
  refine Zs (Zr ?_)
  refine Xa ?_
  refine Ze (Zt (w_ret (t_ret ?_)))
  refine ret1 rfl rfl (fun w' hm => ⟨?_, hm.base (by simp)⟩)
  refine congrArg (fun b => Ending.returned (Value.bool b)) ?_
  have hwl : wordsP x.txt ≠ [] ↔ 0 < (wordsP x.txt).length := List.length_pos_iff.symm
  first | rw [hb46, hb45, hb41, Bool.eq_iff_iff] | rw [hb36, Bool.eq_iff_iff] | rw [hb49, Bool.eq_iff_iff] | rw [Bool.eq_iff_iff]
  simp only [Bool.and_eq_true, decide_eq_true_eq, Bool.false_eq_true]
  unfold rightF
  rw [hwl]
  first | omega | (rw [false_iff]; omega)
 simp only [hb26, hb25, hb21, hb20, hb16, hb15, hb11, hb10, hb6, Qz, ne_eq] at hc26
 refine w_skip (Zt (Zs (Zr ?_)))
 refine Xf 5 rfl u28 rfl sz9 ?_
 refine Xl rfl u9 rfl (at_ownL (vs := x.cells) (.head _) rfl) ?_
 refine x_own (τ := RowS) (fun r => rowV r (wordsP x.txt).length) (fun r => rowOK 1 r (wordsP x.txt).length ((wordsP x.txt).map Value.string)) (fun r => rowO 9 r ++ [(Bk p1 x.cells 28)]) rfl rfl rfl Tryz.func21 Zk rfl (fun w1 hw1 => (r_Words x.txt w1 hs).mono fun e w2 ⟨r, h1, h2, h3⟩ => ⟨r, h1, h3.base (by simp), h2, hw1.join2 h3⟩) fun r hr => ?_
 refine Xa ?_
 refine Ze (Zt (Zs (Zs (Zr ?_))))
 refine Xf 2 rfl u28 rfl sz3 ?_
 refine Xl rfl u3 rfl (at_ownL (vs := x.cells) (List.mem_append_right _ (.head _)) rfl) ?_
 refine Ze (Zt (w_block (Zs (Zr ?_))))
 refine Xb rfl (v_eql rfl rfl) fun b33 hb33 => ?_
 refine Xa ?_
 refine Ze (Zt ?_)
 refine w_cond rfl (fun hc32 => ?_) fun hc32 => ?_
 ·simp only [hb33, Qz, ne_eq] at hc32
  refine Zs (Zr ?_)
  refine Xf 4 rfl u28 rfl sz3 ?_
  refine Xl rfl u3 rfl (at_ownL (vs := x.cells) (List.mem_append_right _ (.head _)) rfl) ?_
  refine Xb rfl (v_geq rfl rfl) fun b36 hb36 => ?_
  refine Xa ?_
  refine Ze (Zt (w_ret (b_ret (t_ret ?_))))
  refine ret1 rfl rfl (fun w' hm => ⟨?_, hm.base (by simp)⟩)
  refine congrArg (fun b => Ending.returned (Value.bool b)) ?_
  have hwl : wordsP x.txt ≠ [] ↔ 0 < (wordsP x.txt).length := List.length_pos_iff.symm
  first | rw [hb46, hb45, hb41, Bool.eq_iff_iff] | rw [hb36, Bool.eq_iff_iff] | rw [hb49, Bool.eq_iff_iff] | rw [Bool.eq_iff_iff]
  simp only [Bool.and_eq_true, decide_eq_true_eq, Bool.false_eq_true]
  unfold rightF
  rw [hwl]
  first | omega | (rw [false_iff]; omega)
 simp only [hb33, Qz, ne_eq] at hc32
 refine Zs (Zr ?_)
 refine Xb rfl (v_eql rfl rfl) fun b38 hb38 => ?_
 refine Xa ?_
 refine Ze (Zt ?_)
 refine w_cond rfl (fun hc37 => ?_) fun hc37 => ?_
 ·simp only [hb38, Qz, ne_eq] at hc37
  refine Zs (Zr ?_)
  refine Xf 4 rfl u28 rfl sz3 ?_
  refine Xl rfl u3 rfl (at_ownL (vs := x.cells) (List.mem_append_right _ (.head _)) rfl) ?_
  refine Xb rfl (v_geq rfl rfl) fun b41 hb41 => ?_
  refine Xm ?_
  refine Xg ?_
  refine x_if [] rfl rfl rfl rfl rfl (v := Vi ((wordsP x.txt).length : Nat)) (fun hg => by obtain ⟨hg0, _⟩ := hg; subst hg0; (try simp only [Qy]); exact v_len_slice u38 rfl) ?_
  refine Xj rfl rfl rfl (fun hg0 => by subst hg0; (try simp only [Qy]); exact v_eql rfl rfl) fun b45 hb45 => ?_
  refine Xb rfl (v_and rfl rfl) fun b46 hb46 => ?_
  refine Xa ?_
  refine Ze (Zt (w_ret (b_ret (t_ret ?_))))
  refine ret1 rfl rfl (fun w' hm => ⟨?_, hm.base (by simp)⟩)
  refine congrArg (fun b => Ending.returned (Value.bool b)) ?_
  have hwl : wordsP x.txt ≠ [] ↔ 0 < (wordsP x.txt).length := List.length_pos_iff.symm
  first | rw [hb46, hb45, hb41, Bool.eq_iff_iff] | rw [hb36, Bool.eq_iff_iff] | rw [hb49, Bool.eq_iff_iff] | rw [Bool.eq_iff_iff]
  simp only [Bool.and_eq_true, decide_eq_true_eq, Bool.false_eq_true]
  unfold rightF
  rw [hwl]
  first | omega | (rw [false_iff]; omega)
 simp only [hb38, Qz, ne_eq] at hc37
 refine w_skip (b_norm (Zt (Zs (Zr ?_))))
 refine Xm ?_
 refine Xv (v := Vi ((wordsP x.txt).length : Nat)) rfl (v_len_slice u38 rfl) ?_
 refine Xb rfl (v_gtr rfl rfl) fun b49 hb49 => ?_
 refine Xa ?_
 refine Ze (Zt (w_ret ?_))
 refine ret1 rfl rfl (fun w' hm => ⟨?_, hm.base (by simp)⟩)
 refine congrArg (fun b => Ending.returned (Value.bool b)) ?_
 have hwl : wordsP x.txt ≠ [] ↔ 0 < (wordsP x.txt).length := List.length_pos_iff.symm
 first | rw [hb46, hb45, hb41, Bool.eq_iff_iff] | rw [hb36, Bool.eq_iff_iff] | rw [hb49, Bool.eq_iff_iff] | rw [Bool.eq_iff_iff]
 simp only [Bool.and_eq_true, decide_eq_true_eq, Bool.false_eq_true]
 unfold rightF
 rw [hwl]
 first | omega | (rw [false_iff]; omega)
theorem r_before (a c : FD) (w : World) :
  Calls Tryz.prog 56 #[Value.agg a.cells.toArray, Value.agg c.cells.toArray] w fun e w' => e = .returned (.bool (decide (befF a c))) ∧ Later w w' := by
 refine enter (vs := [Value.agg a.cells.toArray, Value.agg c.cells.toArray]) Tryz.func56 rfl Tryz.ntmps56 rfl ?_
 refine Zs (Zr ?_)
 refine x_box rfl rfl rfl rfl ?_
 intro p2
 refine x_box rfl rfl rfl rfl ?_
 intro p3
 refine Xa ?_
 refine Ze (Zt (Zs (Zs (Zr ?_))))
 refine Xf 1 rfl u28 rfl sz3 ?_
 refine Xl rfl u3 rfl (at_ownL (vs := a.cells) (.tail _ (.head _)) rfl) ?_
 refine Xf 1 rfl u28 rfl sz3 ?_
 refine Xl rfl u3 rfl (at_ownL (vs := c.cells) (.head _) rfl) ?_
 refine Xb rfl (v_neq rfl rfl) fun b9 hb9 => ?_
 refine Ze (Zt ?_)
 refine w_cond rfl (fun hc9 => ?_) fun hc9 => ?_
 ·simp only [hb9, Qz, ne_eq] at hc9
  refine Zs (Zr ?_)
  refine Xf 1 rfl u28 rfl sz3 ?_
  refine Xl rfl u3 rfl (at_ownL (vs := a.cells) (.tail _ (.head _)) rfl) ?_
  refine Xf 1 rfl u28 rfl sz3 ?_
  refine Xl rfl u3 rfl (at_ownL (vs := c.cells) (.head _) rfl) ?_
  refine Xb rfl (v_lss rfl rfl) fun b14 hb14 => ?_
  refine Xa ?_
  refine Ze (Zt (w_ret (t_ret ?_)))
  refine ret1 rfl rfl (fun w' hm => ⟨?_, hm.base (by simp)⟩)
  refine congrArg (fun b => Ending.returned (Value.bool b)) ?_
  rw [hb14, decide_eq_decide]
  unfold befF
  omega
 simp only [hb9, Qz, ne_eq] at hc9
 refine w_skip (Zt (Zs (Zr ?_)))
 refine Xf 0 rfl u28 rfl sz3 ?_
 refine Xl rfl u3 rfl (at_ownL (vs := a.cells) (.tail _ (.head _)) rfl) ?_
 refine Xf 0 rfl u28 rfl sz3 ?_
 refine Xl rfl u3 rfl (at_ownL (vs := c.cells) (.head _) rfl) ?_
 refine Xb rfl (v_lss rfl rfl) fun b19 hb19 => ?_
 refine Xa ?_
 refine Ze (Zt (w_ret ?_))
 refine ret1 rfl rfl (fun w' hm => ⟨?_, hm.base (by simp)⟩)
 refine congrArg (fun b => Ending.returned (Value.bool b)) ?_
 rw [hb19, decide_eq_decide]
 unfold befF
 omega
open Go.RowKit Go.PK
theorem take_ins {fs : List FD} {x : FD} (hr : rightF x) (hk : knwF fs x = false) (hm : ¬5000 ≤ fs.length) : takeF fs x = (0, insF fs x) := by
 have hn := knw_no hk
 unfold takeF
 rw [if_neg (fun h => h hr), if_neg (fun h => hn x h ⟨rfl, rfl⟩), if_neg (fun ⟨y, hy, he⟩ => hn y hy he), if_neg hm]
set_option maxHeartbeats 2000000 in
theorem r_Take {pm : Nat} {M : RowS} {fs : List FD} {f : FD} {L : List (Nat × Obj)} {ro : List Snap} {w : World} (hM : rowOK 6 M fs.length (fdsC fs)) (hok : FsOK fs) (hsz : f.txt.size ≤ 4000000) (hm : Mem w ((Bk pm [rowV M fs.length] 48) :: (rowO 28 M ++ L)) ro) :
  Calls Tryz.prog 25 #[Pt pm, Value.agg f.cells.toArray] w fun e w' => e = .returned (Vi (takeF fs f).1) ∧ ∃ M', rowOK 6 M' (takeF fs f).2.length (fdsC (takeF fs f).2) ∧ Mem w' ((Bk pm [rowV M' (takeF fs f).2.length] 48) :: (rowO 28 M' ++ L)) ro := by
 refine enter_in hm (vs := [Pt pm, Value.agg f.cells.toArray]) Tryz.func25 rfl Tryz.ntmps25 rfl ?_
 refine Zs (Zr ?_)
 refine x_box rfl rfl rfl rfl ?_
 intro p3
 refine Xa ?_
 refine Ze (Zt (Zs (Zr ?_)))
 refine Xv rfl (v_load_blk u28 rfl rfl (.head _) (by exact sz28)) ?_
 refine x_callb rfl rfl rfl Tryz.func55 Zk rfl (fun w1 hw1 => r_Right f w1 hsz) fun b11 hb11 => ?_
 refine Xa ?_
 refine Ze (Zt (Zs (Zs (Zr ?_))))
 refine Xm ?_
 refine Xb rfl (v_not rfl) fun b13 hb13 => ?_
 refine Ze (Zt ?_)
 refine w_cond rfl (fun hc13 => ?_) fun hc13 => ?_
 ·simp only [hb13, hb11, Qz, ne_eq] at hc13
  have hnr : ¬rightF f := by simpa [hb11] using hc13
  refine Zs (Zr ?_)
  refine Xa ?_
  refine Ze (Zt (w_ret (t_ret ?_)))
  rw [take_arg hnr]
  exact ret1 rfl rfl (fun w' hm' => ⟨rfl, M, hM, hm'.less (List.sublist_cons_self _ _) (fun _ h => h)⟩)
 simp only [hb13, hb11, Qz, ne_eq] at hc13
 have hrt : rightF f := by simpa [hb11] using hc13
 have hle := hok.len
 refine w_skip (Zt (Zs (Zs (Zr ?_))))
 refine Xa ?_
 refine Ze (Zt (w_block ?_))
 refine w_loop (σ := Nat) (fun k => k ≤ fs.length ∧ ∀ j (h : j < fs.length), j < k → ¬(fs[j].num = f.num ∧ fs[j].ag = f.ag)) (fun k => [(0, Pt pm), (3, Pt p3), (6, Vi (k : Nat))]) (fun k => (Bk p3 f.cells 28) :: (Bk pm [rowV M fs.length] 48) :: (rowO 28 M ++ L)) (fun k => ro) (fun k => fs.length - k) (0) (⟨Nat.zero_le _, by intros; omega⟩) (l_start Zu (fun _ h => h)) ?_
 rintro k ⟨hk, hno⟩
 refine w_state ([(0, Pt pm), (3, Pt p3), (6, Vi (k : Nat))]) ((Bk p3 f.cells 28) :: (Bk pm [rowV M fs.length] 48) :: (rowO 28 M ++ L)) (ro) ?_
 refine Zs (Zs (Zr ?_))
 refine Xm ?_
 refine Xm ?_
 refine Xn ?_
 refine Xf 0 rfl u48 rfl sz24 ?_
 refine Xl rfl u24 rfl (at_ownL (vs := [rowV M fs.length]) (.tail _ (.head _)) rfl) ?_
 refine Xv (v := Vi (fs.length : Nat)) rfl (v_len_slice u24 rfl) ?_
 refine Xb rfl (v_lss rfl rfl) fun b20 hb20 => ?_
 refine Ze (Zt ?_)
 refine w_cond rfl (fun hc20 => ?_) fun hc20 => ?_
 ·simp only [hb20, Qz, ne_eq] at hc20
  have hkl : k < fs.length := by omega
  obtain ⟨g, cs, c, hRg, hcp, hcl⟩ := fd_cell hM hkl
  refine w_skip (Zt (Zs (w_block (Zs (Zs ?_)))))
  refine rg_draw 9 [(true, 0), (true, 1), (true, 2), (true, 3), (true, 4), (true, 5), (true, 6), (true, 7), (true, 8)] Zk Zk ?_
  refine Xm ?_
  refine Xn ?_
  refine Xf 0 rfl u48 rfl sz24 ?_
  refine Xl rfl u24 rfl (at_ownL (vs := [rowV M fs.length]) (.tail _ (.head _)) rfl) ?_
  refine Xm ?_
  refine Xv rfl (v_indexAddr u24 sz28 (congrArg (fun R => some (rowV R fs.length)) hRg) rfl (hkl) rfl) ?_
  refine Xv rfl (v_loadN (vs := fs[k].cells) u28 rfl sz28 rfl (fun i hi => at_ownL (vs := cs) (.tail _ (.tail _ (List.mem_append_left _ (by rw [hRg]; exact .head _)))) (by rw [Nat.zero_add]; exact (hcl i hi).trans (List.getElem?_eq_getElem hi)))) ?_
  refine Xv rfl (v_load_blk u28 rfl rfl (.head _) (by exact sz28)) ?_
  refine Xb rfl (v_eqA Zk rfl rfl (fun w1 => eqFD w1 fs[k] f)) fun b31 hb31 => ?_
  refine Ze (Zt ?_)
  refine w_cond rfl (fun hc31 => ?_) fun hc31 => ?_
  ·simp only [hb31, Qz, ne_eq] at hc31
   have hfk : fs[k] = f := by simpa using hc31
   refine Zs (Zr ?_)
   refine Xa ?_
   refine Ze (Zt (w_ret (t_ret (b_ret (t_ret (t_ret (b_ret (t_ret ?_))))))))
   rw [take_twice hrt (by rw [← hfk]; exact List.getElem_mem hkl)]
   exact ret1 rfl rfl (fun w' hm' => ⟨rfl, M, hM, hm'.less (List.sublist_cons_self _ _) (fun _ h => h)⟩)
  simp only [hb31, Qz, ne_eq] at hc31
  have hfk : ¬fs[k] = f := by simpa using hc31
  refine w_skip (Zt (Zs ?_))
  refine rg_draw 24 [(true, 0), (true, 1), (true, 2), (true, 3), (true, 4), (true, 5), (true, 6), (true, 7), (true, 8), (true, 9), (true, 10), (true, 11), (true, 12), (true, 13), (true, 14), (true, 15), (true, 16), (true, 17), (true, 18), (true, 19), (true, 20), (true, 21), (true, 22), (true, 23)] Zk Zk ?_
  refine Xm ?_
  refine Xn ?_
  refine Xf 0 rfl u48 rfl sz24 ?_
  refine Xl rfl u24 rfl (at_ownL (vs := [rowV M fs.length]) (.tail _ (.head _)) rfl) ?_
  refine Xm ?_
  refine Xv rfl (v_indexAddr u24 sz28 (congrArg (fun R => some (rowV R fs.length)) hRg) rfl (hkl) rfl) ?_
  refine Xf _ rfl u28 rfl sz3 ?_
  refine Xl rfl u3 rfl (at_ownL (vs := cs) (v := Vi fs[k].num) (.tail _ (.tail _ (List.mem_append_left _ (by rw [hRg]; exact .head _)))) (by show cs[0 + k * 6 + 1]? = _; rw [Nat.zero_add]; exact hcl 1 (by decide))) ?_
  refine Xf 1 rfl u28 rfl sz3 ?_
  refine Xl rfl u3 rfl (at_ownL (vs := f.cells) (.head _) rfl) ?_
  refine Xb rfl (v_eql rfl rfl) fun b42 hb42 => ?_
  refine Xm ?_
  refine Xg ?_
  refine Xi rfl rfl rfl (fun hg0 => by subst hg0; (try simp only [Qy]); exact v_nilCheck rfl) ?_
  refine Xi rfl rfl rfl (fun hg0 => by subst hg0; (try simp only [Qy]); exact v_fieldAddr (off' := 0) u48 rfl sz24 (by decide) rfl rfl) ?_
  refine Xi rfl rfl rfl (fun hg0 => by subst hg0; (try simp only [Qy]); exact v_load u24 rfl rfl (at_ownL (vs := [rowV M fs.length]) (.tail _ (.head _)) rfl)) ?_
  refine Xg ?_
  refine Xi rfl rfl rfl (fun hg0 => by subst hg0; (try simp only [Qy]); exact v_indexAddr u24 sz28 (congrArg (fun R => some (rowV R fs.length)) hRg) rfl (hkl) rfl) ?_
  refine Xi rfl rfl rfl (fun hg0 => by subst hg0; (try simp only [Qy]); exact v_fieldAddr u28 rfl sz3 (by decide) rfl rfl) ?_
  refine x_if [] rfl rfl rfl rfl rfl (v := Vi fs[k].ag) (fun hg => by obtain ⟨hg0, _⟩ := hg; subst hg0; (try simp only [Qy]); exact v_load u3 rfl rfl (at_ownL (vs := cs) (v := Vi fs[k].ag) (.tail _ (.tail _ (List.mem_append_left _ (by rw [hRg]; exact .head _)))) (by show cs[0 + k * 6 + 0]? = _; rw [Nat.zero_add]; exact hcl 0 (by decide)))) ?_
  refine Xi rfl rfl rfl (fun hg0 => by subst hg0; (try simp only [Qy]); exact v_fieldAddr (off' := 0) u28 rfl sz3 (by decide) rfl rfl) ?_
  refine Xi rfl rfl rfl (fun hg0 => by subst hg0; (try simp only [Qy]); exact v_load u3 rfl rfl (at_ownL (vs := f.cells) (.head _) rfl)) ?_
  refine Xj rfl rfl rfl (fun hg0 => by subst hg0; (try simp only [Qy]); exact v_eql rfl rfl) fun b54 hb54 => ?_
  refine Xb rfl (v_and rfl rfl) fun b55 hb55 => ?_
  refine Ze (Zt ?_)
  refine w_cond rfl (fun hc55 => ?_) fun hc55 => ?_
  ·simp only [hb55, hb54, hb42, Qz, ne_eq] at hc55
   have hkey : fs[k].num = f.num ∧ fs[k].ag = f.ag := by simpa using hc55
   refine Zs (Zr ?_)
   refine Xa ?_
   refine Ze (Zt (w_ret (b_ret (t_ret (t_ret (b_ret (t_ret ?_)))))))
   rw [take_old hrt (fun hf => hfk (srtF8_key hok.srt (List.getElem_mem hkl) hf hkey)) (List.any_eq_true.2 ⟨_, List.getElem_mem hkl, decide_eq_true hkey⟩)]
   exact ret1 rfl rfl (fun w' hm' => ⟨rfl, M, hM, hm'.less (List.sublist_cons_self _ _) (fun _ h => h)⟩)
  simp only [hb55, hb54, hb42, Qz, ne_eq] at hc55
  have hkey : ¬(fs[k].num = f.num ∧ fs[k].ag = f.ag) := fun h => by simp [h.1, h.2] at hc55
  refine w_skip (b_norm (Zt (Zr ?_)))
  refine Xm ?_
  refine Xv rfl (v_addi rfl rfl rfl Zo) ?_
  refine Xa ?_
  refine Ze ?_
  exact l_norm (k + 1) ⟨by omega, fun j h hjk => by rcases Nat.lt_succ_iff_lt_or_eq.1 hjk with h2 | rfl; (· exact hno j h h2); exact hkey⟩ (by omega) Zu (fun _ h => h)
 simp only [hb20, Qz, ne_eq] at hc20
 obtain rfl : k = fs.length := by omega
 have hkn : knwF fs f = false := by
  unfold knwF
  rw [List.any_eq_false]
  intro y hy
  obtain ⟨j, hj, rfl⟩ := List.getElem_of_mem hy
  simpa using hno j hj hj
 refine w_exit ?_
 refine t_exit ?_
 refine t_exit ?_
 refine b_hit ?_
 refine Zt (Zs (Zs (Zr ?_)))
 refine Xm ?_
 refine Xn ?_
 refine Xf 0 rfl u48 rfl sz24 ?_
 refine Xl rfl u24 rfl (at_ownL (vs := [rowV M fs.length]) (.tail _ (.head _)) rfl) ?_
 refine Xv (v := Vi (fs.length : Nat)) rfl (v_len_slice u24 rfl) ?_
 refine Xb rfl (v_geq rfl rfl) fun b61 hb61 => ?_
 refine Ze (Zt ?_)
 refine w_cond rfl (fun hc61 => ?_) fun hc61 => ?_
 ·simp only [hb61, Qz, ne_eq] at hc61
  skip
  refine Zs (Zr ?_)
  refine Xa ?_
  refine Ze (Zt (w_ret (t_ret ?_)))
  rw [take_many hrt hkn (by omega)]
  exact ret1 rfl rfl (fun w' hm' => ⟨rfl, M, hM, hm'.less (List.sublist_cons_self _ _) (fun _ h => h)⟩)
 simp only [hb61, Qz, ne_eq] at hc61
 skip
 refine w_skip (Zt (Zs ?_))
 refine rg_inv ([(Bk p3 f.cells 28), (Bk pm [rowV M fs.length] 48)]) 10 (.flt 0 (.flt 1 (.flt 2 (.flt 3 (.flt 4 (.flt 5 (.gr 6 (.gr 7 (.flt 8 (.flt 9 .done)) .nil) .nil))))))) (((List.nil_sublist _).cons_cons _).cons_cons _) Zk Zk ?_
 refine j_val rfl rfl (v_move rfl) ?_
 refine j_val rfl rfl (v_move rfl) ?_
 refine j_val rfl rfl (v_nilCheck rfl) ?_
 refine j_val rfl rfl (v_fieldAddr (off' := 0) u48 rfl sz24 (by decide) rfl rfl) ?_
 refine j_val rfl rfl (v_load u24 rfl rfl (at_ownL (vs := [rowV M fs.length]) (.tail _ (.head _)) rfl)) ?_
 refine j_val rfl rfl (v_load_blk u28 rfl rfl (.head _) (by exact sz28)) ?_
 refine j_gr ?_ j_nil
 refine x_buildSliceL (cs := f.cells) rfl rfl rfl u24 sz28 zr28 rfl rfl rfl ?_
 intro p68
 refine Ze ?_
 refine j_end ((((List.nil_sublist _).cons_cons _).cons_cons _).cons _) ?_
 refine j_gr ?_ j_nil
 refine x_append (e := 28) [(Bk p68 f.cells 28), (Bk p3 f.cells 28), (Bk pm [rowV M fs.length] 48)] (l2 := L) M (len := fs.length) (xs := fdsC fs) rfl rfl rfl rfl rfl hM u24 ap28 rfl rfl (m := 1) (news := f.cells) (fun i hi => at_ownL (vs := f.cells) (.head _) (by rw [Nat.zero_add]; exact List.getElem?_eq_getElem hi)) rfl Zx (by omega) fun M' hR' => ?_
 refine Ze ?_
 refine j_end ((((List.nil_sublist _).cons_cons _).cons_cons _).cons _) ?_
 refine j_val rfl rfl (v_nilCheck rfl) ?_
 refine j_val rfl rfl (v_fieldAddr (off' := 0) u48 rfl sz24 (by decide) rfl rfl) ?_
 refine j_done ?_
 refine x_store (cs := [rowV M fs.length]) (off := 0) (e := 48) (l2 := rowO 28 M' ++ L) [(Bk p68 f.cells 28), (Bk p3 f.cells 28)] rfl rfl rfl rfl sz24 rfl (by show 0 + 1 ≤ 1; decide) ?_
 refine Ze (Zt (Zs (Zs ?_)))
 obtain ⟨gM, csM, cpM, rfl, _⟩ := hR'.cell (j := 0) (by rw [List.length_append]; show 0 < _ + 6; omega)
 refine Zr ?_
 refine Xm ?_
 refine Xn ?_
 refine Xf 0 rfl u48 rfl sz24 ?_
 refine Xl rfl u24 rfl (at_ownL (vs := [Value.slice (some ⟨gM, 0, none⟩) (fs.length + 1) cpM]) (.tail _ (.tail _ (.head _))) rfl) ?_
 refine Xv (v := Vi ((fs.length + 1 : Nat) : Int)) rfl (v_len_slice u24 rfl) ?_
 refine Xv rfl (v_subi (c := ((fs.length : Nat) : Int)) rfl rfl (by omega) (by omega)) ?_
 refine Xa ?_
 refine Ze (Zt (w_block ?_))
 refine w_loop (σ := Nat × List Value) (fun z => z.1 ≤ fs.length ∧ rowOK 6 (some (gM, z.2, cpM)) (midF fs f z.1).length (fdsC (midF fs f z.1)) ∧ ∀ j (h : j < fs.length), z.1 ≤ j → befF f fs[j]) (fun z => [(0, Pt pm), (7, Vi (z.1 : Nat))]) (fun z => (Bk pm [Value.slice (some ⟨gM, 0, none⟩) (fs.length + 1) cpM] 48) :: (Bk gM z.2 28) :: L) (fun z => ro) (fun z => z.1) ((fs.length, csM)) (⟨Nat.le_refl _, by dsimp only; rw [midF_all, List.length_append, fdsC_app]; exact (by simpa [fdsC] using hR'), fun j h hj => by dsimp only at hj; omega⟩) (l_start Zu (fun _ h => h.less ((List.sublist_cons_self _ _).trans (List.sublist_cons_self _ _)) (fun _ h => h))) ?_
 rintro ⟨k, cs⟩ ⟨hk, hC, hbf⟩
 refine w_state ([(0, Pt pm), (7, Vi (k : Nat))]) ((Bk pm [Value.slice (some ⟨gM, 0, none⟩) (fs.length + 1) cpM] 48) :: (Bk gM cs 28) :: L) (ro) ?_
 dsimp only at hk hC hbf
 refine Zs (Zs (Zr ?_))
 refine Xm ?_
 refine Xb rfl (v_gtr rfl rfl) fun b79 hb79 => ?_
 refine Ze (Zt ?_)
 refine w_cond rfl (fun hc79 => ?_) fun hc79 => ?_
 ·simp only [hb79, Qz, ne_eq] at hc79
  obtain ⟨j, rfl⟩ : ∃ j, k = j + 1 := ⟨k - 1, by omega⟩
  have hjl : j < fs.length := by omega
  obtain ⟨m1, m2⟩ := midF_at (x := f) hjl
  obtain ⟨h1, e1⟩ := List.getElem?_eq_some_iff.1 m1
  obtain ⟨h2, e2⟩ := List.getElem?_eq_some_iff.1 m2
  obtain ⟨g1, cs1, c1, hR1, _, hc1⟩ := fd_cell hC h1
  obtain ⟨rfl, rfl, rfl⟩ : gM = g1 ∧ cs = cs1 ∧ cpM = c1 := by simpa using hR1
  obtain ⟨g2, cs2, c2, hR2, _, hc2⟩ := fd_cell hC h2
  obtain ⟨rfl, rfl, rfl⟩ : gM = g2 ∧ cs = cs2 ∧ cpM = c2 := by simpa using hR2
  rw [e1] at hc1
  rw [e2] at hc2
  refine w_skip (Zt (Zs (w_block (Zs ?_))))
  refine rg_draw 17 [(true, 0), (true, 1), (true, 2), (true, 3), (true, 4), (true, 5), (true, 6), (true, 7), (true, 8), (true, 9), (true, 10), (true, 11), (true, 12), (true, 13), (true, 14), (true, 15), (true, 16)] Zk Zk ?_
  refine Xm ?_
  refine Xn ?_
  refine Xf 0 rfl u48 rfl sz24 ?_
  refine Xl rfl u24 rfl (at_ownL (vs := [Value.slice (some ⟨gM, 0, none⟩) (fs.length + 1) cpM]) (.head _) rfl) ?_
  refine Xm ?_
  refine Xv rfl (v_indexAddr u24 sz28 rfl rfl (show j + 1 < fs.length + 1 by omega) rfl) ?_
  refine Xv rfl (v_loadN (vs := f.cells) u28 rfl sz28 rfl (fun i hi => at_ownL (vs := cs) (.tail _ (.head _)) (by rw [Nat.zero_add]; exact (hc1 i hi).trans (List.getElem?_eq_getElem hi)))) ?_
  refine Xm ?_
  refine Xn ?_
  refine Xf 0 rfl u48 rfl sz24 ?_
  refine Xl rfl u24 rfl (at_ownL (vs := [Value.slice (some ⟨gM, 0, none⟩) (fs.length + 1) cpM]) (.head _) rfl) ?_
  refine Xm ?_
  refine Xv rfl (v_subi (c := ((j : Nat) : Int)) rfl rfl (by omega) (by omega)) ?_
  refine Xv rfl (v_indexAddr u24 sz28 rfl rfl (show j < fs.length + 1 by omega) rfl) ?_
  refine Xv rfl (v_loadN (vs := fs[j].cells) u28 rfl sz28 rfl (fun i hi => at_ownL (vs := cs) (.tail _ (.head _)) (by rw [Nat.zero_add]; exact (hc2 i hi).trans (List.getElem?_eq_getElem hi)))) ?_
  refine x_callb rfl rfl rfl Tryz.func56 Zk rfl (fun w1 hw1 => r_before f fs[j] w1) fun b97 hb97 => ?_
  refine Xa ?_
  refine Ze (Zt (Zs (Zs (Zr ?_))))
  refine Xm ?_
  refine Xb rfl (v_not rfl) fun b99 hb99 => ?_
  refine Ze (Zt ?_)
  refine w_cond rfl (fun hc99 => ?_) fun hc99 => ?_
  ·simp only [hb99, hb97, Qz, ne_eq] at hc99
   have hnb : ¬befF f fs[j] := by simpa [hb97] using hc99
   refine w_exit ?_
   refine t_exit ?_
   refine b_miss rfl ?_
   refine t_exit ?_
   refine t_exit ?_
   refine b_hit ?_
   refine Zt (Zs (Zr ?_))
   refine Xa ?_
   refine Ze (Zt (w_ret ?_))
   have hmi := midF_ins hok.srt (knw_no hkn) hk hbf (fun i hi he => by obtain rfl : i = j := (by omega); exact hnb)
   rw [hmi] at hC
   rw [take_ins hrt hkn (by omega)]
   exact ret1 rfl rfl (fun w' hm' => ⟨rfl, some (gM, cs, cpM), hC, hm'.to (by dsimp only; rw [insF_len]; rfl)⟩)
  simp only [hb99, hb97, Qz, ne_eq] at hc99
  have hbe : befF f fs[j] := by simpa [hb97] using hc99
  refine w_skip (Zt (Zs (Zr ?_)))
  refine Xm ?_
  refine Xn ?_
  refine Xf 0 rfl u48 rfl sz24 ?_
  refine Xl rfl u24 rfl (at_ownL (vs := [Value.slice (some ⟨gM, 0, none⟩) (fs.length + 1) cpM]) (.head _) rfl) ?_
  refine Xm ?_
  refine Xv rfl (v_indexAddr u24 sz28 rfl rfl (show j + 1 < fs.length + 1 by omega) rfl) ?_
  refine Xv rfl (v_loadN (vs := f.cells) u28 rfl sz28 rfl (fun i hi => at_ownL (vs := cs) (.tail _ (.head _)) (by rw [Nat.zero_add]; exact (hc1 i hi).trans (List.getElem?_eq_getElem hi)))) ?_
  refine x_alloc rfl rfl rfl zr28 ?_
  intro p9
  refine x_store0 [] rfl rfl rfl rfl sz28 rfl rfl ?_
  refine Ze (Zt (Zs ?_))
  refine rg_draw 14 [(true, 0), (true, 1), (true, 2), (true, 3), (true, 4), (true, 5), (true, 6), (true, 7), (true, 8), (true, 9), (true, 10), (true, 11), (true, 12), (true, 13)] Zk Zk ?_
  refine Xm ?_
  refine Xn ?_
  refine Xf 0 rfl u48 rfl sz24 ?_
  refine Xl rfl u24 rfl (at_ownL (vs := [Value.slice (some ⟨gM, 0, none⟩) (fs.length + 1) cpM]) (.tail _ (.head _)) rfl) ?_
  refine Xm ?_
  refine Xm ?_
  refine Xn ?_
  refine Xf 0 rfl u48 rfl sz24 ?_
  refine Xl rfl u24 rfl (at_ownL (vs := [Value.slice (some ⟨gM, 0, none⟩) (fs.length + 1) cpM]) (.tail _ (.head _)) rfl) ?_
  refine Xm ?_
  refine Xv rfl (v_subi (c := ((j : Nat) : Int)) rfl rfl (by omega) (by omega)) ?_
  refine Xv rfl (v_indexAddr u24 sz28 rfl rfl (show j < fs.length + 1 by omega) rfl) ?_
  refine Xv rfl (v_loadN (vs := fs[j].cells) u28 rfl sz28 rfl (fun i hi => at_ownL (vs := cs) (.tail _ (.tail _ (.head _))) (by rw [Nat.zero_add]; exact (hc2 i hi).trans (List.getElem?_eq_getElem hi)))) ?_
  refine Xv rfl (v_indexAddr (j := j + 1) u24 sz28 rfl rfl (show j + 1 < fs.length + 1 by omega) (Nat.zero_add _)) ?_
  refine x_store (cs := cs) (off := (j + 1) * 6) (e := 28) (l2 := L) [(p9, _), (pm, _)] rfl rfl rfl rfl sz28 rfl (by obtain ⟨_, q2, _, q4, _⟩ := hC; dsimp only at q2 q4; rw [midF_len (by omega)] at q2; omega) ?_
  refine Ze (Zt ?_)
  have hC1 := row_put (c := FD.cells) (m := 6) (fun _ => rfl) hC h1 fs[j]
  have hC2 := row_put (c := FD.cells) (m := 6) (fun _ => rfl) hC1 (i := j) (by rw [List.length_set]; exact h2) f
  rw [midF_move hjl] at hC2
  refine rg_draw 8 [(true, 0), (true, 1), (true, 2), (true, 3), (true, 4), (true, 5), (true, 6), (true, 7)] Zk Zk ?_
  refine Xm ?_
  refine Xn ?_
  refine Xf 0 rfl u48 rfl sz24 ?_
  refine Xl rfl u24 rfl (at_ownL (vs := [Value.slice (some ⟨gM, 0, none⟩) (fs.length + 1) cpM]) (.tail _ (.head _)) rfl) ?_
  refine Xm ?_
  refine Xv rfl (v_subi (c := ((j : Nat) : Int)) rfl rfl (by omega) (by omega)) ?_
  refine Xv rfl (v_load_blk u28 rfl rfl (.head _) (by exact sz28)) ?_
  refine Xv rfl (v_indexAddr (j := j) u24 sz28 rfl rfl (show j < fs.length + 1 by omega) (Nat.zero_add _)) ?_
  refine x_store (cs := cs.take ((j + 1) * 6) ++ fs[j].cells ++ cs.drop ((j + 1) * 6 + 6)) (off := j * 6) (e := 28) (l2 := L) [(p9, _), (pm, _)] rfl rfl rfl rfl sz28 rfl (by obtain ⟨_, q2, _, q4, _⟩ := hC1; dsimp only at q2 q4; rw [List.length_set, midF_len (by omega)] at q2; omega) ?_
  refine Ze (b_norm (Zt (Zr ?_)))
  refine Xm ?_
  refine Xv rfl (v_subi (c := ((j : Nat) : Int)) rfl rfl (by omega) (by omega)) ?_
  refine Xa ?_
  refine Ze ?_
  exact l_norm (j, _) ⟨by dsimp only; omega, hC2, fun i h hji => by dsimp only at hji; rcases Nat.lt_or_eq_of_le hji with h3 | rfl; (· exact hbf i h h3); exact hbe⟩ (Nat.lt_succ_self _) Zu (fun _ h => h.less (List.sublist_cons_self _ _) (fun _ h => h))
 simp only [hb79, Qz, ne_eq] at hc79
 obtain rfl : k = 0 := by omega
 refine w_exit ?_
 refine t_exit ?_
 refine t_exit ?_
 refine b_hit ?_
 refine Zt (Zs (Zr ?_))
 refine Xa ?_
 refine Ze (Zt (w_ret ?_))
 have hmi := midF_ins hok.srt (knw_no hkn) hk hbf (fun i hi he => by omega)
 rw [hmi] at hC
 rw [take_ins hrt hkn (by omega)]
 exact ret1 rfl rfl (fun w' hm' => ⟨rfl, some (gM, cs, cpM), hC, hm'.to (by dsimp only; rw [insF_len]; rfl)⟩)
open Go.RowKit Go.PK
structure HR where
  g : HG
  O : RowS
  S : RowS
def hrC (x : HR) : List Value := [Vi x.g.id, .string x.g.name, rowV x.O x.g.oth.length, rowV x.S x.g.spl.length, Vi x.g.into]
def hrOK (x : HR) : Prop := rowOK 1 x.O x.g.oth.length (x.g.oth.map Value.string) ∧ rowOK 2 x.S x.g.spl.length (x.g.spl.flatMap splC)
def gsR (hs : List HR) : List HG := hs.map (·.g)
structure RdR (w : World) (ps : Nat) (H : RowS) (hs : List HR) : Prop where
  st : w.cell? ⟨ps, 0, none⟩ = some (rowV H hs.length)
  row : PK.rowR 148 5 hrC H hs w
  rows : ∀ x ∈ hs, ∀ q ∈ rowO 9 x.O ++ rowO 150 x.S, w.heap[q.1]? = some q.2
  ok : ∀ x ∈ hs, hrOK x
theorem RdR.later {w w' : World} {ps : Nat} {H : RowS} {hs : List HR} (h : RdR w ps H hs) (hl : Later w w') : RdR w' ps H hs where
 st := (World.cell?_of_block (a := ⟨ps, 0, none⟩) (hl.block ps (cell_lt h.st))).trans h.st
 row := h.row.later hl
 rows := fun x hx q hq => (hl.block _ (heap_lt (h.rows x hx q hq))).trans (h.rows x hx q hq)
 ok := h.ok
def fdR (hs : List HR) (id : Int) : Int := fidx (fun x : HR => decide (x.g.id = id)) hs
theorem fdR_lk (hs : List HR) (id : Int) : (∀ i (h : i < hs.length), fdR hs id = (i : Nat) → lkH (gsR hs) id = some hs[i].g) ∧ (fdR hs id < 0 → lkH (gsR hs) id = none) ∧ (0 ≤ fdR hs id ↔ (lkH (gsR hs) id).isSome = true) := by
 have key : (lkH (gsR hs) id) = ((hs.find? (fun x : HR => decide (x.g.id = id))).map (·.g)) := by
  unfold lkH gsR
  rw [List.find?_map]; rfl
 unfold fdR fidx
 cases hq : hs.findIdx? (fun x : HR => decide (x.g.id = id)) with
 | none =>
  have h0 : hs.find? (fun x : HR => decide (x.g.id = id)) = none := List.find?_eq_none.2 fun x hx => by
   have := List.findIdx?_eq_none_iff.1 hq x hx
   rw [this]; exact Bool.false_ne_true
  rw [key, h0]
  exact ⟨fun i h he => by dsimp only at he; omega, fun _ => rfl, ⟨fun h => by dsimp only at h; omega, fun h => by cases h⟩⟩
 | some j =>
  obtain ⟨h1, h2, h3⟩ := List.findIdx?_eq_some_iff_getElem.1 hq
  have h0 : hs.find? (fun x : HR => decide (x.g.id = id)) = some hs[j] := List.find?_eq_some_iff_getElem.2 ⟨h2, j, h1, rfl, fun k hk => by simpa using h3 k hk⟩
  rw [key, h0]
  exact ⟨fun i h he => (by dsimp only at he; obtain rfl : j = i := (by omega); rfl), fun h => by dsimp only at h; omega, ⟨fun _ => rfl, fun _ => by dsimp only; omega⟩⟩
theorem r_find {ps : Nat} {H : RowS} {hs : List HR} (w : World) (hR : RdR w ps H hs) (hlen : hs.length ≤ 100000) (id : Int) :
  Calls Tryz.prog 96 #[Pt ps, Vi id] w fun e w' => e = .returned (Vi (fdR hs id)) ∧ Later w w' := by
 refine enter (vs := [Pt ps, Vi id]) Tryz.func96 rfl Tryz.ntmps96 rfl ?_
 refine Zs (Zr ?_)
 refine Xa ?_
 refine Ze (Zt (Zs (Zs (Zr ?_))))
 refine Xa ?_
 refine Ze (Zt (w_block ?_))
 refine w_loop (σ := Nat) (fun k => k ≤ hs.length ∧ ∀ j (h : j < hs.length), j < k → decide (hs[j].g.id = id) = false) (fun k => [(0, Pt ps), (1, Vi id), (5, Vi (k : Nat))]) (fun k => []) (fun k => [(w, fun _ => True)]) (fun k => hs.length - k) (0) (⟨Nat.zero_le _, by intros; omega⟩) (l_start Zu (fun _ h => h)) ?_
 rintro k ⟨hk, hno⟩
 refine w_state ([(0, Pt ps), (1, Vi id), (5, Vi (k : Nat))]) ([]) ([(w, fun _ => True)]) ?_
 refine Zs (Zs (Zr ?_))
 refine Xm ?_
 refine Xm ?_
 refine Xn ?_
 refine Xf 0 rfl u144 rfl sz142 ?_
 refine Xl rfl u142 rfl (at_ro (.head _) trivial hR.st) ?_
 refine Xv (v := Vi (hs.length : Nat)) rfl (v_len_slice u142 rfl) ?_
 refine Xb rfl (v_lss rfl rfl) fun b12 hb12 => ?_
 refine Ze (Zt ?_)
 refine w_cond rfl (fun hc12 => ?_) fun hc12 => ?_
 ·simp only [hb12, Qz, ne_eq] at hc12
  have hkl : k < hs.length := by omega
  obtain ⟨g, cs, cp, hRg, hcp, hcl⟩ := hR.row.cells (c := hrC) (m := 5) (fun _ => rfl) (by decide) hkl
  refine w_skip (Zt (Zs (w_block (Zs (Zr ?_)))))
  refine Xm ?_
  refine Xn ?_
  refine Xf 0 rfl u144 rfl sz142 ?_
  refine Xl rfl u142 rfl (at_ro (.head _) trivial hR.st) ?_
  refine Xm ?_
  refine Xv rfl (v_indexAddr u142 sz148 (congrArg (fun R => some (rowV R hs.length)) hRg) rfl (hkl) rfl) ?_
  refine Xf _ rfl u148 rfl sz3 ?_
  refine Xl rfl u3 rfl (at_ro (.head _) trivial (v := Vi hs[k].g.id) (by show w.cell? ⟨g, 0 + k * 5 + 0, none⟩ = _; rw [Nat.zero_add]; exact hcl 0 (by decide))) ?_
  refine Xm ?_
  refine Xb rfl (v_eql rfl rfl) fun b24 hb24 => ?_
  refine Ze (Zt ?_)
  refine w_cond rfl (fun hc24 => ?_) fun hc24 => ?_
  ·have hb : decide (hs[k].g.id = id) = true := hb24.symm.trans hc24
   refine Zs (Zr ?_)
   refine Xm ?_
   refine Xa ?_
   refine Ze (Zt (w_ret (b_ret (t_ret (t_ret (b_ret (t_ret ?_)))))))
   refine ret1 rfl rfl (fun w' hm => ⟨?_, hm.base (by simp)⟩)
   unfold fdR; rw [fidx_at hkl hb hno]
  have hb : decide (hs[k].g.id = id) = false := hb24.symm.trans hc24
  refine w_skip (b_norm (Zt (Zr ?_)))
  refine Xm ?_
  refine Xv rfl (v_addi rfl rfl rfl Zo) ?_
  refine Xa ?_
  refine Ze ?_
  exact l_norm (k + 1) ⟨by omega, fun j h hjk => by rcases Nat.lt_succ_iff_lt_or_eq.1 hjk with h2 | rfl; (· exact hno j h h2); exact hb⟩ (by omega) Zu (fun _ h => h)
 simp only [hb12, Qz, ne_eq] at hc12
 refine w_exit ?_
 refine t_exit ?_
 refine t_exit ?_
 refine b_hit ?_
 refine Zt (Zs (Zr ?_))
 refine Xa ?_
 refine Ze (Zt (w_ret ?_))
 refine ret1 rfl rfl (fun w' hm => ⟨?_, hm.base (by simp)⟩)
 unfold fdR; rw [fidx_none (fun j h => hno j h (by omega))]
set_option maxHeartbeats 1000000 in
theorem r_reachS {ps : Nat} {H : RowS} {hs : List HR} (w : World) (hR : RdR w ps H hs) (hlen : hs.length ≤ 100000) {id t : Int} {i : Nat} (hi : i < hs.length) (hf : fdR hs id = (i : Nat)) (hsl : hs[i].g.spl.length ≤ 100000) (ih : ∀ c, c ∈ edges hs[i].g → ∀ w1, Later w w1 → Calls Tryz.prog 123 #[Pt ps, Vi c, Vi t] w1 fun e w2 => e = .returned (.bool (rchB (gsR hs) t c)) ∧ Later w1 w2) :
  Calls Tryz.prog 123 #[Pt ps, Vi id, Vi t] w fun e w' => e = .returned (.bool (rchB (gsR hs) t id)) ∧ Later w w' := by
 have hlk := (fdR_lk hs id).1 i hi hf
 obtain ⟨g, cs, cp, hRg, hcp, hcl⟩ := hR.row.cells (c := hrC) (m := 5) (fun _ => rfl) (by decide) hi
 refine enter (vs := [Pt ps, Vi id, Vi t]) Tryz.func123 rfl Tryz.ntmps123 rfl ?_
 refine Zs (Zr ?_)
 refine Xa ?_
 refine Ze (Zt (Zs (Zs (Zr ?_))))
 refine Xm ?_
 refine Xm ?_
 refine Xb rfl (v_eql rfl rfl) fun b12 hb12 => ?_
 refine Ze (Zt ?_)
 refine w_cond rfl (fun hc12 => ?_) fun hc12 => ?_
 ·simp only [hb12, Qz, ne_eq] at hc12
  have heq : id = t := hc12
  refine Zs (Zr ?_)
  refine Xa ?_
  refine Ze (Zt (w_ret (t_ret ?_)))
  refine ret1 rfl rfl (fun w' hm => ⟨?_, hm.base (by simp)⟩)
  rw [heq, rchB_here]
 simp only [hb12, Qz, ne_eq] at hc12
 have hne : id ≠ t := hc12
 refine w_skip (Zt (Zs (Zr ?_)))
 refine Xm ?_
 refine Xm ?_
 refine x_callv rfl rfl rfl Tryz.func96 Zk rfl (fun w1 hw1 => r_find w1 (hR.later (hw1.base (by simp))) hlen id) ?_
 refine Xa ?_
 refine Ze (Zt (Zs (Zs ?_)))
 rw [hf]
 refine Zr ?_
 refine Xm ?_
 refine Xn ?_
 refine Xf 0 rfl u144 rfl sz142 ?_
 refine Xl rfl u142 rfl (at_ro (.head _) trivial hR.st) ?_
 refine Xm ?_
 refine Xv rfl (v_indexAddr u142 sz148 (congrArg (fun R => some (rowV R hs.length)) hRg) rfl (hi) rfl) ?_
 refine Xf _ rfl u148 rfl sz3 ?_
 refine Xl rfl u3 rfl (at_ro (.head _) trivial (v := Vi hs[i].g.into) (by show w.cell? ⟨g, 0 + i * 5 + 4, none⟩ = _; rw [Nat.zero_add]; exact hcl 4 (by decide))) ?_
 refine Xb rfl (v_gtr rfl rfl) fun b24 hb24 => ?_
 refine Ze (Zt ?_)
 refine w_cond rfl (fun hc24 => ?_) fun hc24 => ?_
 ·simp only [hb24, Qz, ne_eq] at hc24
  have hst := rchB_step (hs := gsR hs) (t := t) hlk hne
  have he : edges hs[i].g = [hs[i].g.into] := by unfold edges; rw [if_pos (by omega)]
  rw [he, List.any_cons, List.any_nil, Bool.or_false] at hst
  refine Zs (Zr ?_)
  refine Xm ?_
  refine Xm ?_
  refine Xn ?_
  refine Xf 0 rfl u144 rfl sz142 ?_
  refine Xl rfl u142 rfl (at_ro (.head _) trivial hR.st) ?_
  refine Xm ?_
  refine Xv rfl (v_indexAddr u142 sz148 (congrArg (fun R => some (rowV R hs.length)) hRg) rfl (hi) rfl) ?_
  refine Xf _ rfl u148 rfl sz3 ?_
  refine Xl rfl u3 rfl (at_ro (.head _) trivial (v := Vi hs[i].g.into) (by show w.cell? ⟨g, 0 + i * 5 + 4, none⟩ = _; rw [Nat.zero_add]; exact hcl 4 (by decide))) ?_
  refine Xm ?_
  refine x_callb rfl rfl rfl Tryz.func123 Zk rfl (fun w1 hw1 => ih hs[i].g.into (by rw [he]; exact .head _) w1 (hw1.base (by simp))) fun b35 hb35 => ?_
  refine Xa ?_
  refine Ze (Zt (w_ret (t_ret ?_)))
  refine ret1 rfl rfl (fun w' hm => ⟨?_, hm.base (by simp)⟩)
  rw [hst, hb35]
 simp only [hb24, Qz, ne_eq] at hc24
 have hst := rchB_step (hs := gsR hs) (t := t) hlk hne
 have he : edges hs[i].g = hs[i].g.spl.map (·.2) := by unfold edges; rw [if_neg (by omega)]
 refine w_skip (Zt (Zs (Zs (Zr ?_))))
 refine Xa ?_
 refine Ze (Zt (w_block ?_))
 refine w_loop (σ := Nat) (fun j => j ≤ hs[i].g.spl.length ∧ ∀ k (h : k < hs[i].g.spl.length), k < j → rchB (gsR hs) t hs[i].g.spl[k].2 = false) (fun j => [(0, Pt ps), (2, Vi t), (7, Vi (i : Nat)), (8, Vi (j : Nat))]) (fun j => []) (fun j => [(w, fun _ => True)]) (fun j => hs[i].g.spl.length - j) (0) (⟨Nat.zero_le _, by intros; omega⟩) (l_start Zu (fun _ h => h)) ?_
 rintro j ⟨hj, hno⟩
 refine w_state ([(0, Pt ps), (2, Vi t), (7, Vi (i : Nat)), (8, Vi (j : Nat))]) ([]) ([(w, fun _ => True)]) ?_
 refine Zs (Zs (Zr ?_))
 refine Xm ?_
 refine Xm ?_
 refine Xn ?_
 refine Xf 0 rfl u144 rfl sz142 ?_
 refine Xl rfl u142 rfl (at_ro (.head _) trivial hR.st) ?_
 refine Xm ?_
 refine Xv rfl (v_indexAddr u142 sz148 (congrArg (fun R => some (rowV R hs.length)) hRg) rfl (hi) rfl) ?_
 refine Xf _ rfl u148 rfl sz146 ?_
 refine Xl rfl u146 rfl (at_ro (.head _) trivial (v := rowV hs[i].S hs[i].g.spl.length) (by show w.cell? ⟨g, 0 + i * 5 + 3, none⟩ = _; rw [Nat.zero_add]; exact hcl 3 (by decide))) ?_
 refine Xv (v := Vi (hs[i].g.spl.length : Nat)) rfl (v_len_slice u146 rfl) ?_
 refine Xb rfl (v_lss rfl rfl) fun b46 hb46 => ?_
 refine Ze (Zt ?_)
 refine w_cond rfl (fun hc46 => ?_) fun hc46 => ?_
 ·simp only [hb46, Qz, ne_eq] at hc46
  have hjl : j < hs[i].g.spl.length := by omega
  obtain ⟨g2, cs2, cp2, hS2, hcp2, hcl2⟩ := row_at (c := splC) (m := 2) (fun _ => rfl) (by decide) (hR.ok _ (List.getElem_mem hi)).2 hjl
  have hcell2 : w.cell? ⟨g2, j * 2 + 1, none⟩ = some (Vi hs[i].g.spl[j].2) := by
   have hg := hR.rows _ (List.getElem_mem hi) (g2, .cells cs2.toArray 150 (0, 0)) (List.mem_append_right _ (by rw [hS2]; exact .head _))
   rw [cell_of_row w g2 _ _ 150 (0, 0) hg, List.getElem?_toArray]; exact hcl2 1 (by decide)
  have hce : hs[i].g.spl[j].2 ∈ edges hs[i].g := by rw [he]; exact List.mem_map_of_mem (List.getElem_mem hjl)
  refine w_skip (Zt (Zs (w_block (Zs (Zr ?_)))))
  refine Xm ?_
  refine Xm ?_
  refine Xn ?_
  refine Xf 0 rfl u144 rfl sz142 ?_
  refine Xl rfl u142 rfl (at_ro (.head _) trivial hR.st) ?_
  refine Xm ?_
  refine Xv rfl (v_indexAddr u142 sz148 (congrArg (fun R => some (rowV R hs.length)) hRg) rfl (hi) rfl) ?_
  refine Xf _ rfl u148 rfl sz146 ?_
  refine Xl rfl u146 rfl (at_ro (.head _) trivial (v := rowV hs[i].S hs[i].g.spl.length) (by show w.cell? ⟨g, 0 + i * 5 + 3, none⟩ = _; rw [Nat.zero_add]; exact hcl 3 (by decide))) ?_
  refine Xm ?_
  refine Xv rfl (v_indexAddr u146 sz150 (congrArg (fun R => some (rowV R hs[i].g.spl.length)) hS2) rfl (hjl) rfl) ?_
  refine Xf _ rfl u150 rfl sz3 ?_
  refine Xl rfl u3 rfl (at_ro (.head _) trivial (v := Vi hs[i].g.spl[j].2) (by show w.cell? ⟨g2, 0 + j * 2 + 1, none⟩ = _; rw [Nat.zero_add]; exact hcell2)) ?_
  refine Xm ?_
  refine x_callb rfl rfl rfl Tryz.func123 Zk rfl (fun w1 hw1 => ih _ hce w1 (hw1.base (by simp))) fun b63 hb63 => ?_
  refine Xa ?_
  refine Ze (Zt (Zs (Zr ?_)))
  refine Xm ?_
  refine Ze (Zt ?_)
  refine w_cond rfl (fun hc64 => ?_) fun hc64 => ?_
  ·skip
   refine Zs (Zr ?_)
   refine Xa ?_
   refine Ze (Zt (w_ret (b_ret (t_ret (t_ret (b_ret (t_ret ?_)))))))
   refine ret1 rfl rfl (fun w' hm => ⟨?_, hm.base (by simp)⟩)
   have hy : rchB (gsR hs) t hs[i].g.spl[j].2 = true := hb63.symm.trans hc64
   rw [hst, List.any_eq_true.2 ⟨_, hce, hy⟩]
  skip
  refine w_skip (b_norm (Zt (Zr ?_)))
  refine Xm ?_
  refine Xv rfl (v_addi rfl rfl rfl Zo) ?_
  refine Xa ?_
  refine Ze ?_
  have hb : rchB (gsR hs) t hs[i].g.spl[j].2 = false := hb63.symm.trans hc64
  exact l_norm (j + 1) ⟨by omega, fun k h hjk => by rcases Nat.lt_succ_iff_lt_or_eq.1 hjk with h2 | rfl; (· exact hno k h h2); exact hb⟩ (by omega) Zu (fun _ h => h)
 simp only [hb46, Qz, ne_eq] at hc46
 obtain rfl : j = hs[i].g.spl.length := by omega
 refine w_exit ?_
 refine t_exit ?_
 refine t_exit ?_
 refine b_hit ?_
 refine Zt (Zs (Zr ?_))
 refine Xa ?_
 refine Ze (Zt (w_ret ?_))
 refine ret1 rfl rfl (fun w' hm => ⟨?_, hm.base (by simp)⟩)
 rw [hst, he, List.any_map, List.any_eq_false.2 (fun x hx => by obtain ⟨k, hk, rfl⟩ := List.getElem_of_mem hx; have := hno k hk hk; simp [this])]
theorem r_reaches {ps : Nat} {H : RowS} {hs : List HR} (w : World) (hR : RdR w ps H hs) (hlen : hs.length ≤ 100000) (ha : Acy (gsR hs)) (hsl : ∀ x ∈ hs, x.g.spl.length ≤ 100000) {id : Int} (t : Int) (h0 : (lkH (gsR hs) id).isSome = true) :
  Calls Tryz.prog 123 #[Pt ps, Vi id, Vi t] w fun e w' => e = .returned (.bool (rchB (gsR hs) t id)) ∧ Later w w' := by
 obtain ⟨r, hr⟩ := ha.rank
 have key : ∀ (n : Nat) (id : Int) (w : World), r id ≤ n → RdR w ps H hs → (lkH (gsR hs) id).isSome = true → Calls Tryz.prog 123 #[Pt ps, Vi id, Vi t] w fun e w' => e = .returned (.bool (rchB (gsR hs) t id)) ∧ Later w w' := by
  intro n
  induction n with
  | zero =>
   intro id w hn hR h0
   obtain ⟨i, hi, hf⟩ := fidx_lt ((fdR_lk hs id).2.2.2 h0)
   have hlk := (fdR_lk hs id).1 i hi hf
   obtain ⟨q1, q2⟩ := lkH_mem hlk
   exact r_reachS w hR hlen hi hf (hsl _ (List.getElem_mem hi)) fun c hc => by have := hr _ q1 c hc; rw [q2] at this; omega
  | succ n ih =>
   intro id w hn hR h0
   obtain ⟨i, hi, hf⟩ := fidx_lt ((fdR_lk hs id).2.2.2 h0)
   have hlk := (fdR_lk hs id).1 i hi hf
   obtain ⟨q1, q2⟩ := lkH_mem hlk
   exact r_reachS w hR hlen hi hf (hsl _ (List.getElem_mem hi)) fun c hc w1 hw1 => ih c w1 (by have := hr _ q1 c hc; rw [q2] at this; omega) (hR.later hw1) (ha.shut _ q1 c hc)
 exact key (r id) id w (Nat.le_refl _) hR h0
open Go.RowKit Go.PK
theorem accN_new {hs : List HG} {f : FD} (hk : f.kind = 1) : (accS hs f).isNone = (lkH hs f.hd).isSome := by
 unfold accS
 cases lkH hs f.hd with
 | none => rw [if_pos hk]; rfl
 | some h => dsimp only; rw [if_pos hk]; rfl
theorem accN_gone {hs : List HG} {f : FD} (hk : f.kind ≠ 1) (h : lkH hs f.hd = none) : (accS hs f).isNone = true := by
 unfold accS
 rw [h]; dsimp only; rw [if_neg hk]; rfl
theorem accN_dead {hs : List HG} {f : FD} {g : HG} (hk : f.kind ≠ 1) (h : lkH hs f.hd = some g) (h0 : g.into ≠ 0) : (accS hs f).isNone = true := by
 unfold accS
 rw [h]; dsimp only; rw [if_neg hk, if_pos h0]; rfl
theorem accN_live {hs : List HG} {f : FD} {g : HG} (hk : f.kind = 2 ∨ f.kind = 3) (h : lkH hs f.hd = some g) (h0 : g.into = 0) : (accS hs f).isNone = false := by
 unfold accS
 rw [h]; dsimp only; rw [if_neg (by omega), if_neg (by omega)]
 split
 ·rfl
 rw [if_pos (by omega)]; rfl
theorem accN_to {hs : List HG} {f : FD} {g : HG} (hk : f.kind = 4 ∨ f.kind = 5) (h : lkH hs f.hd = some g) (h0 : g.into = 0) : (accS hs f).isNone = (decide (lkH hs f.to = none) || rchB hs f.hd f.to) := by
 unfold accS
 rw [h]; dsimp only; rw [if_neg (by omega), if_neg (by omega), if_neg (by omega), if_neg (by omega)]
 by_cases h1 : lkH hs f.to = none
 ·rw [if_pos h1, decide_eq_true h1]; rfl
 rw [if_neg h1, decide_eq_false h1]
 by_cases h2 : PK.RchH hs f.hd f.to
 ·rw [if_pos h2, rchB_iff.2 h2]; rfl
 rw [if_neg h2, rchB_no.2 h2]
 split <;> rfl
set_option maxHeartbeats 1000000 in
theorem r_refuses {ps : Nat} {H : RowS} {hs : List HR} (w : World) (hR : RdR w ps H hs) (hlen : hs.length ≤ 100000) (ha : Acy (gsR hs)) (hsl : ∀ x ∈ hs, x.g.spl.length ≤ 100000) (f : FD) (hkd : 1 ≤ f.kind ∧ f.kind ≤ 5) :
  Calls Tryz.prog 95 #[Pt ps, Value.agg f.cells.toArray] w fun e w' => e = .returned (.bool ((accS (gsR hs) f).isNone)) ∧ Later w w' := by
 refine enter (vs := [Pt ps, Value.agg f.cells.toArray]) Tryz.func95 rfl Tryz.ntmps95 rfl ?_
 refine Zs (Zr ?_)
 refine x_box rfl rfl rfl rfl ?_
 intro p3
 refine Xa ?_
 refine Ze (Zt (Zs (Zr ?_)))
 refine Xm ?_
 refine Xf 3 rfl u28 rfl sz3 ?_
 refine Xl rfl u3 rfl (at_ownL (vs := f.cells) (.head _) rfl) ?_
 refine x_callv rfl rfl rfl Tryz.func96 Zk rfl (fun w1 hw1 => r_find w1 (hR.later (hw1.base (by simp))) hlen f.hd) ?_
 refine Xa ?_
 refine Ze (Zt (Zs (Zs (Zr ?_))))
 refine Xf 2 rfl u28 rfl sz3 ?_
 refine Xl rfl u3 rfl (at_ownL (vs := f.cells) (.head _) rfl) ?_
 refine Xb rfl (v_eql rfl rfl) fun b12 hb12 => ?_
 refine Ze (Zt ?_)
 refine w_cond rfl (fun hc12 => ?_) fun hc12 => ?_
 ·simp only [hb12, Qz, ne_eq] at hc12
  have hk1 : f.kind = 1 := hc12
  refine Zs (Zr ?_)
  refine Xm ?_
  refine Xb rfl (v_geq rfl rfl) fun b14 hb14 => ?_
  refine Xa ?_
  refine Ze (Zt (w_ret (t_ret ?_)))
  refine ret1 rfl rfl (fun w' hm => ⟨?_, hm.base (by simp)⟩)
  rw [accN_new hk1, hb14, Bool.eq_iff_iff.2 (decide_eq_true_iff.trans (fdR_lk hs f.hd).2.2)]
 simp only [hb12, Qz, ne_eq] at hc12
 have hk1 : f.kind ≠ 1 := hc12
 refine w_skip (Zt (Zs (Zs ?_)))
 by_cases h0 : 0 ≤ fdR hs f.hd
 ·obtain ⟨i, hi, hf⟩ := fidx_lt h0
  have hf : fdR hs f.hd = (i : Nat) := hf
  rw [hf]
  obtain ⟨g, cs, cp, hRg, hcp, hcl⟩ := hR.row.cells (c := hrC) (m := 5) (fun _ => rfl) (by decide) hi
  have hlk := (fdR_lk hs f.hd).1 i hi hf
  have hpo := ha.pos hs[i].g (List.mem_map_of_mem (List.getElem_mem hi))
  refine Zr ?_
  refine Xm ?_
  refine Xb rfl (v_lss rfl rfl) fun b16 hb16 => ?_
  obtain rfl : b16 = false := hb16.trans (decide_eq_false (by omega))
  refine Xm ?_
  refine x_valg rfl rfl rfl rfl rfl (v_move rfl) ?_
  refine x_valg rfl rfl rfl rfl rfl (v_nilCheck rfl) ?_
  refine x_valg rfl rfl rfl rfl rfl (v_fieldAddr (off' := 0) u144 rfl sz142 (by decide) rfl rfl) ?_
  refine x_valg rfl rfl rfl rfl rfl (v_load u142 rfl rfl (at_ro (.head _) trivial hR.st)) ?_
  refine x_valg rfl rfl rfl rfl rfl (v_move rfl) ?_
  refine x_valg rfl rfl rfl rfl rfl (v_indexAddr u142 sz148 (congrArg (fun R => some (rowV R hs.length)) hRg) rfl (hi) rfl) ?_
  refine x_valg rfl rfl rfl rfl rfl (v_fieldAddr u148 rfl sz3 (by decide) rfl rfl) ?_
  refine x_valg rfl rfl rfl rfl rfl (v_load u3 rfl rfl (at_ro (.head _) trivial (v := Vi hs[i].g.into) (by show w.cell? ⟨g, 0 + i * 5 + 4, none⟩ = _; rw [Nat.zero_add]; exact hcl 4 (by decide)))) ?_
  refine x_boolg rfl rfl rfl rfl rfl (v_gtr rfl rfl) fun b26 hb26 => ?_
  refine Xv (v := .bool b26) rfl (v_pick (b := false) rfl rfl) ?_
  refine Ze (Zt ?_)
  refine w_cond rfl (fun hc27 => ?_) fun hc27 => ?_
  ·have hin : hs[i].g.into ≠ 0 := by have := of_decide_eq_true (hb26.symm.trans hc27); omega
   refine Zs (Zr ?_)
   refine Xa ?_
   refine Ze (Zt (w_ret (t_ret ?_)))
   refine ret1 rfl rfl (fun w' hm => ⟨?_, hm.base (by simp)⟩)
   rw [accN_dead hk1 hlk hin]
  have hin : hs[i].g.into = 0 := by have := of_decide_eq_false (hb26.symm.trans hc27); omega
  refine w_skip (Zt (Zs (Zs (Zr ?_))))
  refine Xf 2 rfl u28 rfl sz3 ?_
  refine Xl rfl u3 rfl (at_ownL (vs := f.cells) (.head _) rfl) ?_
  refine Xb rfl (v_eql rfl rfl) fun b30 hb30 => ?_
  refine Xm ?_
  refine Xi rfl rfl rfl (fun hg0 => by subst hg0; (try simp only [Qy]); exact v_fieldAddr (off' := 2) u28 rfl sz3 (by decide) rfl rfl) ?_
  refine Xi rfl rfl rfl (fun hg0 => by subst hg0; (try simp only [Qy]); exact v_load u3 rfl rfl (at_ownL (vs := f.cells) (.head _) rfl)) ?_
  refine Xj rfl rfl rfl (fun hg0 => by subst hg0; (try simp only [Qy]); exact v_eql rfl rfl) fun b34 hb34 => ?_
  refine Xb rfl (v_or rfl rfl) fun b35 hb35 => ?_
  refine Ze (Zt ?_)
  refine w_cond rfl (fun hc35 => ?_) fun hc35 => ?_
  ·simp only [hb35, hb34, hb30, Qz, ne_eq] at hc35
   have hk4 : f.kind = 4 ∨ f.kind = 5 := hc35
   refine Zs (Zs (Zr ?_))
   refine Xm ?_
   refine Xf 4 rfl u28 rfl sz3 ?_
   refine Xl rfl u3 rfl (at_ownL (vs := f.cells) (.head _) rfl) ?_
   refine x_callv rfl rfl rfl Tryz.func96 Zk rfl (fun w1 hw1 => r_find w1 (hR.later (hw1.base (by simp))) hlen f.to) ?_
   refine Xb rfl (v_lss rfl rfl) fun b40 hb40 => ?_
   refine Ze (Zt ?_)
   refine w_cond rfl (fun hc40 => ?_) fun hc40 => ?_
   ·simp only [hb40, Qz, ne_eq] at hc40
    have hto := (fdR_lk hs f.to).2.1 hc40
    refine Zs (Zr ?_)
    refine Xa ?_
    refine Ze (Zt (w_ret (t_ret (t_ret ?_))))
    refine ret1 rfl rfl (fun w' hm => ⟨?_, hm.base (by simp)⟩)
    rw [accN_to hk4 hlk hin, decide_eq_true hto]; rfl
   simp only [hb40, Qz, ne_eq] at hc40
   have hto := (fdR_lk hs f.to).2.2.1 (by omega)
   refine w_skip (Zt (Zs (Zr ?_)))
   refine Xm ?_
   refine Xf 4 rfl u28 rfl sz3 ?_
   refine Xl rfl u3 rfl (at_ownL (vs := f.cells) (.head _) rfl) ?_
   refine Xf 3 rfl u28 rfl sz3 ?_
   refine Xl rfl u3 rfl (at_ownL (vs := f.cells) (.head _) rfl) ?_
   refine x_callb rfl rfl rfl Tryz.func123 Zk rfl (fun w1 hw1 => r_reaches w1 (hR.later (hw1.base (by simp))) hlen ha hsl f.hd hto) fun b46 hb46 => ?_
   refine Xa ?_
   refine Ze (Zt (w_ret (t_ret ?_)))
   refine ret1 rfl rfl (fun w' hm => ⟨?_, hm.base (by simp)⟩)
   rw [accN_to hk4 hlk hin, decide_eq_false (fun h => by rw [h] at hto; cases hto), hb46]; rfl
  simp only [hb35, hb34, hb30, Qz, ne_eq] at hc35
  have hk4 : ¬(f.kind = 4 ∨ f.kind = 5) := fun h => by omega
  refine w_skip (Zt (Zs (Zr ?_)))
  refine Xa ?_
  refine Ze (Zt (w_ret ?_))
  refine ret1 rfl rfl (fun w' hm => ⟨?_, hm.base (by simp)⟩)
  rw [accN_live (by omega) hlk hin]
 have hno := (fdR_lk hs f.hd).2.1 (Int.not_le.1 h0)
 refine Zr ?_
 refine Xm ?_
 refine Xb rfl (v_lss rfl rfl) fun b16 hb16 => ?_
 obtain rfl : b16 = true := hb16.trans (decide_eq_true (Int.not_le.1 h0))
 refine Xm ?_
 refine x_no rfl rfl rfl rfl rfl ?_
 refine x_no rfl rfl rfl rfl rfl ?_
 refine x_no rfl rfl rfl rfl rfl ?_
 refine x_no rfl rfl rfl rfl rfl ?_
 refine x_no rfl rfl rfl rfl rfl ?_
 refine x_no rfl rfl rfl rfl rfl ?_
 refine x_no rfl rfl rfl rfl rfl ?_
 refine x_no rfl rfl rfl rfl rfl ?_
 refine x_no rfl rfl rfl rfl rfl ?_
 refine Xv (v := .bool true) rfl (v_pick (b := true) rfl rfl) ?_
 refine Ze (Zt ?_)
 refine w_cond rfl (fun hc27 => ?_) fun hc27 => ?_
 ·skip
  refine Zs (Zr ?_)
  refine Xa ?_
  refine Ze (Zt (w_ret (t_ret ?_)))
  refine ret1 rfl rfl (fun w' hm => ⟨?_, hm.base (by simp)⟩)
  rw [accN_gone hk1 hno]
 cases hc27
open Go.RowKit Go.PK
theorem r_mod (n m : Int) (w : World) (hn : in64 n) (hmm : 0 < m ∧ m ≤ 4000000000) :
  Calls Tryz.prog 54 #[Vi n, Vi m] w fun e w' => e = .returned (Vi (n % m)) ∧ Later w w' := by
 refine enter (vs := [Vi n, Vi m]) Tryz.func54 rfl Tryz.ntmps54 rfl ?_
 refine Zs (Zr ?_)
 refine Xa ?_
 refine Ze (Zt (Zs (Zr ?_)))
 refine Xm ?_
 refine Xm ?_
 refine Xv rfl (v_rem rfl rfl (by omega)) ?_
 refine Xm ?_
 refine Xv rfl (v_addi (c := n.tmod m + m) rfl rfl rfl (by have := tmod_bd n m hmm.1; omega)) ?_
 refine Xm ?_
 refine Xv rfl (v_rem rfl rfl (by omega)) ?_
 refine Xa ?_
 refine Ze (Zt (w_ret ?_))
 refine ret1 rfl rfl (fun w' hm => ⟨?_, hm.base (by simp)⟩)
 rw [tmod_mod n m hmm.1]
theorem r_among {ws : List ByteArray} {R : RowS} {t : ByteArray} (w : World) (hr : PK.rowR 9 1 (fun x : ByteArray => [Value.string x]) R ws w) (hlen : ws.length ≤ 100000000) :
  Calls Tryz.prog 66 #[rowV R ws.length, .string t] w fun e w' => e = .returned (.bool (amg ws t)) ∧ Later w w' := by
 refine enter (vs := [rowV R ws.length, .string t]) Tryz.func66 rfl Tryz.ntmps66 rfl ?_
 refine Zs (Zr ?_)
 refine Xa ?_
 refine Ze (Zt (Zs (Zs (Zr ?_))))
 refine Xa ?_
 refine Ze (Zt (w_block ?_))
 refine w_loop (σ := Nat) (fun k => k ≤ ws.length ∧ ∀ j (h : j < ws.length), j < k → decide (ws[j] = t) = false) (fun k => [(0, rowV R ws.length), (1, Value.string t), (5, Vi (k : Nat))]) (fun k => []) (fun k => [(w, fun _ => True)]) (fun k => ws.length - k) (0) (⟨Nat.zero_le _, by intros; omega⟩) (l_start Zu (fun _ h => h)) ?_
 rintro k ⟨hk, hno⟩
 refine w_state ([(0, rowV R ws.length), (1, Value.string t), (5, Vi (k : Nat))]) ([]) ([(w, fun _ => True)]) ?_
 refine Zs (Zs (Zr ?_))
 refine Xm ?_
 refine Xm ?_
 refine Xv (v := Vi (ws.length : Nat)) rfl (v_len_slice u38 rfl) ?_
 refine Xb rfl (v_lss rfl rfl) fun b9 hb9 => ?_
 refine Ze (Zt ?_)
 refine w_cond rfl (fun hc9 => ?_) fun hc9 => ?_
 ·simp only [hb9, Qz, ne_eq] at hc9
  have hkl : k < ws.length := by omega
  obtain ⟨g, cs, cp, hRg, hcp, hcl⟩ := hr.cells (c := (fun x : ByteArray => [Value.string x])) (m := 1) (fun _ => rfl) (by decide) hkl
  refine w_skip (Zt (Zs (w_block (Zs (Zr ?_)))))
  refine Xm ?_
  refine Xm ?_
  refine Xv rfl (v_indexAddr u38 sz9 (congrArg (fun R => some (rowV R ws.length)) hRg) rfl (hkl) rfl) ?_
  refine Xl rfl u9 rfl (at_ro (.head _) trivial (v := Value.string ws[k]) (by rw [Nat.zero_add]; exact hcl 0 (by decide))) ?_
  refine Xm ?_
  refine Xb rfl (v_seql rfl rfl) fun b17 hb17 => ?_
  refine Ze (Zt ?_)
  refine w_cond rfl (fun hc17 => ?_) fun hc17 => ?_
  ·have hb : decide (ws[k] = t) = true := hb17.symm.trans hc17
   refine Zs (Zr ?_)
   refine Xa ?_
   refine Ze (Zt (w_ret (b_ret (t_ret (t_ret (b_ret (t_ret ?_)))))))
   refine ret1 rfl rfl (fun w' hm => ⟨?_, hm.base (by simp)⟩)
   rw [show amg ws t = true from List.any_eq_true.2 ⟨_, List.getElem_mem hkl, hb⟩]
  have hb : decide (ws[k] = t) = false := hb17.symm.trans hc17
  refine w_skip (b_norm (Zt (Zr ?_)))
  refine Xm ?_
  refine Xv rfl (v_addi rfl rfl rfl Zo) ?_
  refine Xa ?_
  refine Ze ?_
  exact l_norm (k + 1) ⟨by omega, fun j h hjk => by rcases Nat.lt_succ_iff_lt_or_eq.1 hjk with h2 | rfl; (· exact hno j h h2); exact hb⟩ (by omega) Zu (fun _ h => h)
 simp only [hb9, Qz, ne_eq] at hc9
 obtain rfl : k = ws.length := by omega
 refine w_exit ?_
 refine t_exit ?_
 refine t_exit ?_
 refine b_hit ?_
 refine Zt (Zs (Zr ?_))
 refine Xa ?_
 refine Ze (Zt (w_ret ?_))
 refine ret1 rfl rfl (fun w' hm => ⟨?_, hm.base (by simp)⟩)
 rw [show amg ws t = false from List.any_eq_false.2 (fun x hx => by obtain ⟨j, hj, rfl⟩ := List.getElem_of_mem hx; rw [hno j hj hj]; exact Bool.false_ne_true)]
set_option maxHeartbeats 1000000 in
theorem r_Decimal (n0 : Int) (w : World) (h00 : 0 ≤ n0) (hn0 : in64 n0) :
  Calls Tryz.prog 15 #[Vi n0] w fun e w' => e = .returned (.string (itoaS n0)) ∧ Later w w' := by
 refine enter (vs := [Vi n0]) Tryz.func15 rfl Tryz.ntmps15 rfl ?_
 refine Zs (Zr ?_)
 refine Xa ?_
 refine Ze (Zt (Zs (Zr ?_)))
 refine Xa ?_
 refine Ze (Zt (Zs (w_block ?_)))
 refine w_loop (σ := Int × ByteArray) (fun z => 0 ≤ z.1 ∧ in64 z.1 ∧ itoaS n0 = itoaS z.1 ++ z.2) (fun z => [(0, Vi z.1), (3, Value.string z.2)]) (fun z => []) (fun z => [(w, fun _ => True)]) (fun z => z.1.toNat) ((n0, ⟨#[]⟩)) (⟨h00, hn0, by rw [show (⟨#[]⟩ : ByteArray) = ByteArray.empty from rfl, ByteArray.append_empty]⟩) (l_start Zu (fun _ h => h)) ?_
 rintro ⟨n, out⟩ ⟨h0, hn, hit⟩
 refine w_state ([(0, Vi n), (3, Value.string out)]) ([]) ([(w, fun _ => True)]) ?_
 dsimp only at h0 hn hit
 have hsz : out.size ≤ 21 := by
  have q1 := itoaS_size hn0
  rw [hit, ByteArray.size_append] at q1
  omega
 refine Zs (Zs (Zr ?_))
 refine Xm ?_
 refine Xb rfl (v_geq rfl rfl) fun b5 hb5 => ?_
 refine Ze (Zt ?_)
 refine w_cond rfl (fun hc5 => ?_) fun hc5 => ?_
 ·simp only [hb5, Qz, ne_eq] at hc5
  have h10 : 10 ≤ n := by omega
  refine w_skip (Zt (w_block (Zs (Zr ?_))))
  refine Xm ?_
  refine Xv (v := Vi (n % 10)) rfl (by rw [← Int.tmod_eq_emod_of_nonneg h0]; exact v_rem rfl rfl (by decide)) ?_
  refine Xv (v := Vi (48 + n % 10)) rfl (v_addi rfl rfl rfl (by omega)) ?_
  refine Xv (v := Value.int .u8 ((UInt8.ofNat (48 + (n % 10).toNat)).toNat : Nat)) rfl (by rw [← dig_c h0, Int.tmod_eq_emod_of_nonneg h0]; exact v_conv u3 u5 rfl) ?_
  refine x_buildSliceL (cs := [Value.int .u8 (UInt8.ofNat (48 + (n % 10).toNat)).toNat]) rfl rfl rfl u22 sz5 zr5 rfl rfl rfl ?_
  intro p10
  refine Xv rfl (v_toStr [UInt8.ofNat (48 + (n % 10).toNat)] u22 u5 u9 rfl rfl (fun j hj => at_ownL (vs := [Value.int .u8 (UInt8.ofNat (48 + (n % 10).toNat)).toNat]) (.head _) (by match j, hj with | 0, _ => rfl))) ?_
  refine Xm ?_
  refine Xv rfl (v_sadd rfl rfl (by rw [show (⟨#[UInt8.ofNat (48 + (n % 10).toNat)]⟩ : ByteArray).size = 1 from rfl]; omega)) ?_
  refine Xa ?_
  refine Ze (Zt (Zr ?_))
  refine Xm ?_
  refine Xv rfl (v_quoi (c := n / 10) rfl rfl (by decide) (Int.tdiv_eq_ediv_of_nonneg h0) (by unfold in64 at hn; omega)) ?_
  refine Xa ?_
  refine Ze (b_norm ?_)
  exact l_norm (n / 10, _) ⟨by dsimp only; omega, by unfold in64 at hn ⊢; dsimp only; omega, by dsimp only; rw [hit, itoaS_big h10, ByteArray.append_assoc]⟩ (by dsimp only; omega) Zu (fun _ h => h.less (List.sublist_cons_self _ _) (fun _ h => h))
 simp only [hb5, Qz, ne_eq] at hc5
 have h10 : n < 10 := by omega
 have hnm : n % 10 = n := Int.emod_eq_of_lt h0 h10
 refine w_exit ?_
 refine t_exit ?_
 refine t_exit ?_
 refine b_hit ?_
 refine Zt (Zs (Zr ?_))
 refine Xm ?_
 refine Xv (v := Vi (48 + n % 10)) rfl (v_addi rfl rfl (by omega) (by omega)) ?_
 refine Xv (v := Value.int .u8 ((UInt8.ofNat (48 + (n % 10).toNat)).toNat : Nat)) rfl (by rw [← dig_c h0, Int.tmod_eq_emod_of_nonneg h0]; exact v_conv u3 u5 rfl) ?_
 refine x_buildSliceL (cs := [Value.int .u8 (UInt8.ofNat (48 + (n % 10).toNat)).toNat]) rfl rfl rfl u22 sz5 zr5 rfl rfl rfl ?_
 intro p19
 refine Xv rfl (v_toStr [UInt8.ofNat (48 + (n % 10).toNat)] u22 u5 u9 rfl rfl (fun j hj => at_ownL (vs := [Value.int .u8 (UInt8.ofNat (48 + (n % 10).toNat)).toNat]) (.head _) (by match j, hj with | 0, _ => rfl))) ?_
 refine Xm ?_
 refine Xv rfl (v_sadd rfl rfl (by rw [show (⟨#[UInt8.ofNat (48 + (n % 10).toNat)]⟩ : ByteArray).size = 1 from rfl]; omega)) ?_
 refine Xa ?_
 refine Ze (Zt (w_ret ?_))
 refine ret1 rfl rfl (fun w' hm => ⟨?_, hm.base (by simp)⟩)
 rw [hit, itoaS_small h0 h10]
open Go.RowKit Go.PK
structure SR where
  ps : Nat
  H : RowS
  hs : List HR
  R : RowS
def hrO (x : HR) : List (Nat × Obj) := rowO 9 x.O ++ rowO 150 x.S
def HRO (hs : List HR) : List (Nat × Obj) := hs.flatMap hrO
def SRO (x : SR) (n : Nat) : List (Nat × Obj) := (Bk x.ps [rowV x.H x.hs.length, rowV x.R n] 144) :: (rowO 148 x.H ++ (rowO 28 x.R ++ HRO x.hs))
structure SRK (x : SR) (s : SG8) : Prop where
  hs : gsR x.hs = s.hs
  row : rowOK 5 x.H x.hs.length (x.hs.flatMap hrC)
  ok : ∀ h ∈ x.hs, hrOK h
  rf : rowOK 6 x.R s.ref.length (fdsC s.ref)
theorem SRK.zero (ps : Nat) : SRK ⟨ps, none, [], none⟩ (stF []) := ⟨rfl, rowOK_nil, fun h hh => (by cases hh), rowOK_nil⟩
theorem HRO_set {hs : List HR} {i : Nat} (hi : i < hs.length) (x' : HR) : ∃ A C, HRO hs = A ++ (hrO hs[i] ++ C) ∧ HRO (hs.set i x') = A ++ (hrO x' ++ C) := by
 refine ⟨HRO (hs.take i), HRO (hs.drop (i + 1)), ?_, ?_⟩
 ·unfold HRO
  conv => lhs; rw [show hs = hs.take i ++ hs[i] :: hs.drop (i + 1) from by rw [List.getElem_cons_drop, List.take_append_drop]]
  rw [List.flatMap_append, List.flatMap_cons]
 unfold HRO
 rw [List.set_eq_take_append_cons_drop, if_pos hi, List.flatMap_append, List.flatMap_cons]
theorem SRK.rd {x : SR} {s : SG8} (h : SRK x s) {w : World} {n : Nat} {L : List (Nat × Obj)} {ro : List Snap} (hm : Mem w (SRO x n ++ L) ro) : RdR w x.ps x.H x.hs where
 st := at_ownL (vs := [rowV x.H x.hs.length, rowV x.R n]) (.head _) rfl w hm
 row := hm.rowR h.row (fun q hq => List.mem_append_left _ (.tail _ (List.mem_append_left _ hq)))
 rows := fun y hy q hq => hm.own_at q (List.mem_append_left _ (.tail _ (List.mem_append_right _ (List.mem_append_right _ (List.mem_flatMap.2 ⟨y, hy, hq⟩)))))
 ok := h.ok
theorem setH_spl : ∀ {a : List HG} {y h : HG} {c : List HG}, (∀ z ∈ a, z.id ≠ h.id) → y.id = h.id → setH (a ++ y :: c) h = a ++ h :: c
 | [], y, h, c, _, hy => by
  show setH (y :: c) h = h :: c
  unfold setH
  rw [if_pos hy]
 | z :: a, y, h, c, ha, hy => by
  show setH (z :: (a ++ y :: c)) h = _
  unfold setH
  rw [if_neg (ha z (.head _)), setH_spl (fun q hq => ha q (.tail _ hq)) hy]; rfl
theorem setH_at {hs : List HR} {id : Int} {i : Nat} (hi : i < hs.length) (hf : fdR hs id = (i : Nat)) (x' : HR) (hid : x'.g.id = id) : setH (gsR hs) x'.g = gsR (hs.set i x') ∧ lkH (gsR hs) id = some hs[i].g := by
 refine ⟨?_, (fdR_lk hs id).1 i hi hf⟩
 unfold fdR fidx at hf
 cases hq : hs.findIdx? (fun x : HR => decide (x.g.id = id)) with
 | none => rw [hq] at hf; dsimp only at hf; omega
 | some j =>
  rw [hq] at hf
  dsimp only at hf
  have hj : j = i := by omega
  subst hj
  obtain ⟨h1, h2, h3⟩ := List.findIdx?_eq_some_iff_getElem.1 hq
  have e1 : gsR hs = gsR (hs.take j) ++ hs[j].g :: gsR (hs.drop (j + 1)) := by
   unfold gsR
   conv => lhs; rw [show hs = hs.take j ++ hs[j] :: hs.drop (j + 1) from by rw [List.getElem_cons_drop, List.take_append_drop]]
   rw [List.map_append, List.map_cons]
  have e2 : gsR (hs.set j x') = gsR (hs.take j) ++ x'.g :: gsR (hs.drop (j + 1)) := by
   unfold gsR
   rw [List.set_eq_take_append_cons_drop, if_pos hi, List.map_append, List.map_cons]
  rw [e1, e2]
  refine setH_spl (fun z hz => ?_) (by rw [hid]; exact of_decide_eq_true h2)
  obtain ⟨y, hy, rfl⟩ := List.mem_map.1 hz
  obtain ⟨m, hm, rfl⟩ := List.getElem_of_mem hy
  rw [List.length_take] at hm
  rw [List.getElem_take, hid]
  have := h3 m (by omega)
  simpa using this
theorem SRK.set {x : SR} {s : SG8} (h : SRK x s) {id : Int} {i : Nat} (hi : i < x.hs.length) (hf : fdR x.hs id = (i : Nat)) {x' : HR} (hid : x'.g.id = id) (hok : hrOK x') {H' : RowS} (hr : rowOK 5 H' (x.hs.set i x').length ((x.hs.set i x').flatMap hrC)) : SRK { x with hs := x.hs.set i x', H := H' } ⟨setH s.hs x'.g, s.ref⟩ where
 hs := by rw [← h.hs]; exact (setH_at hi hf x' hid).1.symm
 row := hr
 ok := fun y hy => (List.mem_or_eq_of_mem_set hy).elim (h.ok y) (fun e => by rw [e]; exact hok)
 rf := h.rf
open Go.RowKit Go.PK
def titL : List ByteArray := [⟨#[84, 111, 109, 32, 83, 97, 119, 121, 101, 114]⟩, ⟨#[79, 108, 100, 32, 115, 111, 110, 103, 115]⟩, ⟨#[65, 32, 98, 111, 111, 107, 32, 111, 102, 32, 109, 117, 115, 105, 99]⟩, ⟨#[]⟩, ⟨#[83, 79, 78, 71, 83, 32, 111, 102, 32, 84, 111, 109]⟩]
def titN (n : Int) : ByteArray := titL.getD (n % 5).toNat ⟨#[]⟩
theorem r_Title (n : Int) (w : World) (hn : in64 n) :
  Calls Tryz.prog 30 #[Vi n] w fun e w' => e = .returned (.string (titN n)) ∧ Later w w' := by
 have hj5 : (n % 5).toNat < 5 := by omega
 refine enter (vs := [Vi n]) Tryz.func30 rfl Tryz.ntmps30 rfl ?_
 refine Zs (Zr ?_)
 refine Xa ?_
 refine Ze (Zt (Zs (Zr ?_)))
 refine x_buildSliceL (cs := titL.map Value.string) rfl rfl rfl u38 sz9 zr9 rfl rfl rfl ?_
 intro p3
 refine Xm ?_
 refine x_callv (v := Vi (((n % 5).toNat : Nat) : Int)) rfl rfl rfl Tryz.func54 Zk rfl (fun w1 hw1 => by rw [Int.toNat_of_nonneg (Int.emod_nonneg n (by decide))]; exact r_mod n 5 w1 hn (by omega)) ?_
 refine Xv rfl (v_indexAddr u38 sz9 rfl rfl (hj5) rfl) ?_
 refine Xl rfl u9 rfl (at_ownL (vs := titL.map Value.string) (v := Value.string (titN n)) (.head _) (by rw [Nat.zero_add, Nat.mul_one, List.getElem?_map]; unfold titN; rw [List.getD_eq_getElem?_getD, List.getElem?_eq_getElem hj5]; rfl)) ?_
 refine Xa ?_
 refine Ze (Zt (w_ret ?_))
 refine ret1 rfl rfl (fun w' hm => ⟨?_, hm.base (by simp)⟩)
 rfl
theorem r_has (s : ByteArray) (c : UInt8) (w : World) (hs : s.size ≤ 4000000) [Decidable (∃ j, j < s.size ∧ byteAt s j = c)] :
  Calls Tryz.prog 70 #[.string s, .int .u8 (c.toNat : Nat)] w fun e w' => e = .returned (.bool (decide (∃ j, j < s.size ∧ byteAt s j = c))) ∧ Later w w' := by
 refine enter (vs := [.string s, .int .u8 (c.toNat : Nat)]) Tryz.func70 rfl Tryz.ntmps70 rfl ?_
 refine Zs (Zr ?_)
 refine Xa ?_
 refine Ze (Zt (Zs (Zs (Zr ?_))))
 refine Xa ?_
 refine Ze (Zt (w_block ?_))
 refine w_loop (σ := Nat) (fun k => k ≤ s.size ∧ ∀ j, j < k → ¬byteAt s j = c) (fun k => [(0, Value.string s), (1, Value.int .u8 (c.toNat : Nat)), (5, Vi (k : Nat))]) (fun k => []) (fun k => [(w, fun _ => True)]) (fun k => s.size - k) (0) (⟨Nat.zero_le _, by intros; omega⟩) (l_start Zu (fun _ h => h)) ?_
 rintro k ⟨hk, hno⟩
 refine w_state ([(0, Value.string s), (1, Value.int .u8 (c.toNat : Nat)), (5, Vi (k : Nat))]) ([]) ([(w, fun _ => True)]) ?_
 refine Zs (Zs (Zr ?_))
 refine Xm ?_
 refine Xm ?_
 refine Xv rfl (v_len_str u9 rfl) ?_
 refine Xb rfl (v_lss rfl rfl) fun b9 hb9 => ?_
 refine Ze (Zt ?_)
 refine w_cond rfl (fun hc9 => ?_) fun hc9 => ?_
 ·simp only [hb9, Qz, ne_eq] at hc9
  have hkl : k < s.size := by omega
  refine w_skip (Zt (Zs (w_block (Zs (Zr ?_)))))
  refine Xm ?_
  refine Xm ?_
  refine Xv rfl (v_index u9 rfl rfl (hkl)) ?_
  refine Xm ?_
  refine Xb rfl (v_eql rfl rfl) fun b16 hb16 => ?_
  refine Ze (Zt ?_)
  refine w_cond rfl (fun hc16 => ?_) fun hc16 => ?_
  ·simp only [hb16, Qz, ne_eq] at hc16
   have hb : byteAt s k = c := code_eq.1 hc16
   refine Zs (Zr ?_)
   refine Xa ?_
   refine Ze (Zt (w_ret (b_ret (t_ret (t_ret (b_ret (t_ret ?_)))))))
   refine ret1 rfl rfl (fun w' hm => ⟨?_, hm.base (by simp)⟩)
   rw [decide_eq_true (show ∃ j, j < s.size ∧ byteAt s j = c from ⟨k, hkl, hb⟩)]
  simp only [hb16, Qz, ne_eq] at hc16
  have hb : ¬byteAt s k = c := fun h => hc16 (code_eq.2 h)
  refine w_skip (b_norm (Zt (Zr ?_)))
  refine Xm ?_
  refine Xv rfl (v_addi rfl rfl rfl Zo) ?_
  refine Xa ?_
  refine Ze ?_
  exact l_norm (k + 1) ⟨hkl, fun j hjk => by rcases Nat.lt_succ_iff_lt_or_eq.1 hjk with h2 | rfl; (· exact hno j h2); exact hb⟩ (by omega) Zu (fun _ h => h)
 simp only [hb9, Qz, ne_eq] at hc9
 obtain rfl : k = s.size := by omega
 refine w_exit ?_
 refine t_exit ?_
 refine t_exit ?_
 refine b_hit ?_
 refine Zt (Zs (Zr ?_))
 refine Xa ?_
 refine Ze (Zt (w_ret ?_))
 refine ret1 rfl rfl (fun w' hm => ⟨?_, hm.base (by simp)⟩)
 rw [decide_eq_false (show ¬∃ j, j < s.size ∧ byteAt s j = c from fun ⟨j, h1, h2⟩ => hno j h1 h2)]
open Go.RowKit Go.PK
theorem w_memH {P : Program} {c : Code} {Q : Exit → Act → World → Prop} {n : Nat} {l : List (Nat × Value)} {own own' : List (Nat × Obj)} {ro : List Snap} (hm : ∀ w, Mem w own ro → Mem w own' ro) (h : W P c Q n l own' ro) : W P c Q n l own ro := fun a w ha hw => h a w ha (hm w hw)
theorem ap148 : (Tryz.prog.info? 148).map (fun j => (j.zero, j.size, j.bytes)) = some (some (.agg #[Vi 0, .string ⟨#[]⟩, .slice none 0 0, .slice none 0 0, Vi 0]), 5, 80) := by kernel_rfl
theorem HRO_same {hs : List HR} {i : Nat} (hi : i < hs.length) {x' : HR} (h : hrO x' = hrO hs[i]) : HRO (hs.set i x') = HRO hs := by
 obtain ⟨A1, C1, h1, h2⟩ := HRO_set hi x'
 rw [h1, h2, h]
theorem HRO_spl {hs : List HR} {i : Nat} (hi : i < hs.length) : ∃ A C, HRO hs = A ++ (hrO hs[i] ++ C) ∧ ∀ x', HRO (hs.set i x') = A ++ (hrO x' ++ C) := by
 refine ⟨HRO (hs.take i), HRO (hs.drop (i + 1)), ?_, fun x' => ?_⟩
 ·unfold HRO
  conv => lhs; rw [show hs = hs.take i ++ hs[i] :: hs.drop (i + 1) from by rw [List.getElem_cons_drop, List.take_append_drop]]
  rw [List.flatMap_append, List.flatMap_cons]
 unfold HRO
 rw [List.set_eq_take_append_cons_drop, if_pos hi, List.flatMap_append, List.flatMap_cons]
theorem ap150 : (Tryz.prog.info? 150).map (fun j => (j.zero, j.size, j.bytes)) = some (some (.agg #[.string ⟨#[]⟩, Vi 0]), 2, 24) := by kernel_rfl
theorem app_none {s : SG8} {f : FD} (h : accS s.hs f = none) : applyS s f = ⟨s.hs, s.ref ++ [f]⟩ := by unfold applyS; rw [h]
theorem app_some {s : SG8} {f : FD} {l : List HG} (h : accS s.hs f = some l) : applyS s f = ⟨l, s.ref⟩ := by unfold applyS; rw [h]
set_option maxHeartbeats 4000000 in
theorem r_State {pm : Nat} {M : RowS} {fs : List FD} (w : World) (hp : w.cell? ⟨pm, 0, none⟩ = some (rowV M fs.length)) (hR : rowOK 6 M fs.length (fdsC fs)) (hW : ∀ q ∈ rowO 28 M, w.heap[q.1]? = some q.2) (hok : FsOK fs) (hsz : ∀ q ∈ fs, q.txt.size ≤ 4000000) :
  Calls Tryz.prog 65 #[Pt pm] w fun e w' => ∃ x : SR, e = .returned (Pt x.ps) ∧ SRK x (stF fs) ∧ Mem w' (SRO x (stF fs).ref.length) [(w, fun _ => True)] := by
 have hle := hok.len
 refine enter (vs := [Pt pm]) Tryz.func65 rfl Tryz.ntmps65 rfl ?_
 refine Zs (Zr ?_)
 refine Xa ?_
 refine Ze (Zt (Zs (Zr ?_)))
 refine Xv rfl (v_buildL (places := [(0, 1), (1, 1)]) u144 zr144 Zk rfl rfl) ?_
 refine x_box rfl rfl rfl rfl ?_
 intro p9
 refine Xa ?_
 refine Ze (Zt (Zs (Zs (Zr ?_))))
 refine Xa ?_
 refine Ze (Zt (w_block ?_))
 refine w_loop (σ := Nat × SR) (fun z => z.1 ≤ fs.length ∧ SRK z.2 (stF (fs.take z.1))) (fun z => [(0, Pt pm), (3, Pt z.2.ps), (4, Vi (z.1 : Nat))]) (fun z => SRO z.2 (stF (fs.take z.1)).ref.length) (fun z => [(w, fun _ => True)]) (fun z => fs.length - z.1) ((0, ⟨p9, none, [], none⟩)) (⟨Nat.zero_le _, SRK.zero p9⟩) (l_start Zu (fun _ h => h)) ?_
 rintro ⟨k, x⟩ ⟨hk, hx⟩
 refine w_state ([(0, Pt pm), (3, Pt x.ps), (4, Vi (k : Nat))]) (SRO x (stF (fs.take k)).ref.length) ([(w, fun _ => True)]) ?_
 dsimp only at hk hx
 refine Zs (Zs (Zr ?_))
 refine Xm ?_
 refine Xm ?_
 refine Xn ?_
 refine Xf 0 rfl u48 rfl sz24 ?_
 refine Xl rfl u24 rfl (at_ro (.head _) trivial hp) ?_
 refine Xv (v := Vi (fs.length : Nat)) rfl (v_len_slice u24 rfl) ?_
 refine Xb rfl (v_lss rfl rfl) fun b16 hb16 => ?_
 refine Ze (Zt ?_)
 refine w_cond rfl (fun hc16 => ?_) fun hc16 => ?_
 ·simp only [hb16, Qz, ne_eq] at hc16
  have hkl : k < fs.length := by omega
  obtain ⟨g8, cs8, c8, hRg, hcp, hc8⟩ := fd_cell hR hkl
  have hcell8 : ∀ i9 v, (fs[k].cells)[i9]? = some v → w.cell? ⟨g8, k * 6 + i9, none⟩ = some v := fun i9 v hv => (by have hg := hW (g8, .cells cs8.toArray 28 (0, 0)) (by rw [hRg]; exact .head _); have hi : i9 < 6 := (List.getElem?_eq_some_iff.1 hv).1; rw [cell_of_row w g8 _ _ 28 (0, 0) hg, List.getElem?_toArray, hc8 i9 hi]; exact hv)
  have hacy : Acy (gsR x.hs) := by rw [hx.hs]; exact fs_acy hok k
  have hbd := fs_bnd hok k
  have hlen : x.hs.length ≤ 100000 := by have q1 := hbd.hs; rw [← hx.hs] at q1; unfold gsR at q1; rw [List.length_map] at q1; omega
  have hspl : ∀ y ∈ x.hs, y.g.spl.length ≤ 100000 := fun y hy => by have q1 := (hbd.oth y.g (by rw [← hx.hs]; exact List.mem_map_of_mem hy)).2; omega
  have hkd := rt_kind (hok.rt _ (List.getElem_mem hkl))
  refine w_skip (Zt (Zs (w_block (Zs (Zr ?_)))))
  refine Xm ?_
  refine Xn ?_
  refine Xf 0 rfl u48 rfl sz24 ?_
  refine Xv rfl (Vl u24 rfl) ?_
  refine Xm ?_
  refine Xv rfl (v_indexAddr u24 sz28 (congrArg (fun R => some (rowV R fs.length)) hRg) rfl (hkl) rfl) ?_
  refine Xv rfl (v_loadN (vs := fs[k].cells) u28 rfl sz28 rfl (fun i hi => at_ro (.head _) trivial (by rw [Nat.zero_add]; exact hcell8 i _ (List.getElem?_eq_getElem hi)))) ?_
  refine x_alloc rfl rfl rfl zr28 ?_
  intro p5
  refine x_store0 [] rfl rfl rfl rfl sz28 rfl rfl ?_
  refine Ze (Zt (Zs (Zr ?_)))
  refine Xm ?_
  refine Xv (v := Value.agg fs[k].cells.toArray) rfl (v_load_blk u28 rfl rfl (.head _) (by exact sz28)) ?_
  refine x_callb rfl rfl rfl Tryz.func95 Zk rfl (fun w1 hw1 => r_refuses w1 (hx.rd (L := [_]) (hw1.perm (List.perm_append_comm (l₁ := [_])))) hlen hacy hspl fs[k] hkd) fun b28 hb28 => ?_
  refine Xa ?_
  refine Ze (Zt (Zs (Zs (Zr ?_))))
  refine Xm ?_
  refine Ze (Zt ?_)
  refine w_cond rfl (fun hc29 => ?_) fun hc29 => ?_
  ·have hno : accS (stF (fs.take k)).hs fs[k] = none := by
    have q1 := hb28.symm.trans hc29
    rw [hx.hs] at q1
    exact Option.isNone_iff_eq_none.1 q1
   refine Zs ?_
   refine rg_inv ([(p5, Obj.cells fs[k].cells.toArray 28), (Bk x.ps [rowV x.H x.hs.length, rowV x.R (stF (fs.take k)).ref.length] 144)]) 10 (.flt 0 (.flt 1 (.flt 2 (.flt 3 (.flt 4 (.flt 5 (.gr 6 (.gr 7 (.flt 8 (.flt 9 .done)) .nil) .nil))))))) (((List.nil_sublist _).cons_cons _).cons_cons _) Zk Zk ?_
   refine j_val rfl rfl (v_move rfl) ?_
   refine j_val rfl rfl (v_move rfl) ?_
   refine j_val rfl rfl (v_nilCheck rfl) ?_
   refine j_val rfl rfl (v_fieldAddr (off' := 1) u144 rfl sz24 (by decide) rfl rfl) ?_
   refine j_val rfl rfl (v_load u24 rfl rfl (at_ownL (vs := [rowV x.H x.hs.length, rowV x.R (stF (fs.take k)).ref.length]) (.tail _ (.head _)) rfl)) ?_
   refine j_val rfl rfl (v_load_blk u28 rfl rfl (.head _) (by exact sz28)) ?_
   refine j_gr ?_ j_nil
   refine x_buildSliceL (cs := fs[k].cells) rfl rfl rfl u24 sz28 zr28 rfl rfl rfl ?_
   intro p36
   refine Ze ?_
   refine j_end ((((List.nil_sublist _).cons_cons _).cons_cons _).cons _) ?_
   refine j_gr ?_ j_nil
   refine x_append (e := 28) ((p36, Obj.cells fs[k].cells.toArray 28 (0, 0)) :: (p5, Obj.cells fs[k].cells.toArray 28) :: (Bk x.ps [rowV x.H x.hs.length, rowV x.R (stF (fs.take k)).ref.length] 144) :: rowO 148 x.H) (l2 := HRO x.hs) x.R (len := (stF (fs.take k)).ref.length) (xs := fdsC (stF (fs.take k)).ref) rfl rfl rfl rfl (by unfold SRO; simp only [List.cons_append, List.append_assoc]; rfl) hx.rf u24 ap28 rfl rfl (m := 1) (news := fs[k].cells) (fun i hi => at_ownL (vs := fs[k].cells) (.head _) (by rw [Nat.zero_add]; exact List.getElem?_eq_getElem hi)) rfl (by have := hbd.ref; simp only [maxLen]; omega) (by have := hbd.ref; omega) fun R' hR' => ?_
   refine Ze ?_
   refine j_end ((((List.nil_sublist _).cons_cons _).cons_cons _).cons _) ?_
   refine j_val rfl rfl (v_nilCheck rfl) ?_
   refine j_val rfl rfl (v_fieldAddr (off' := 1) u144 rfl sz24 (by decide) rfl rfl) ?_
   refine j_done ?_
   refine x_store (cs := [rowV x.H x.hs.length, rowV x.R (stF (fs.take k)).ref.length]) (off := 1) (e := 144) (l2 := rowO 148 x.H ++ (rowO 28 R' ++ HRO x.hs)) [(p36, Obj.cells fs[k].cells.toArray 28 (0, 0)), (p5, Obj.cells fs[k].cells.toArray 28)] rfl rfl rfl (by simp) sz24 rfl (by show 1 + 1 ≤ 2; decide) ?_
   refine Ze (Zt ?_)
   refine w_exit ?_
   refine t_exit ?_
   refine b_hit ?_
   refine Zt (Zr ?_)
   refine Xm ?_
   refine Xv rfl (v_addi rfl rfl rfl Zo) ?_
   refine Xa ?_
   refine Ze ?_
   exact l_norm (k + 1, { x with R := R' }) ⟨hkl, by dsimp only; rw [take_st hkl, app_none hno]; exact ⟨hx.hs, hx.row, hx.ok, by rw [List.length_append, fdsC_app]; exact (by simpa [fdsC] using hR')⟩⟩ (by simp only; omega) Zu (fun w1 h => (h.less ((List.sublist_cons_self _ _).trans (List.sublist_cons_self _ _)) (fun _ h => h)).to (by dsimp only; rw [take_st hkl, app_none hno]; dsimp only; rw [List.length_append]; rfl))
  obtain ⟨l2, hso⟩ : ∃ l, accS (stF (fs.take k)).hs fs[k] = some l := by
   have q1 := hb28.symm.trans hc29
   rw [hx.hs] at q1
   cases hq : accS (stF (fs.take k)).hs fs[k] with
   | none => rw [hq] at q1; cases q1
   | some l => exact ⟨l, rfl⟩
  refine w_skip (Zt (Zs (Zr ?_)))
  refine Xm ?_
  refine Xf 3 rfl u28 rfl sz3 ?_
  refine Xl rfl u3 rfl (at_ownL (vs := fs[k].cells) (.head _) rfl) ?_
  refine x_callv rfl rfl rfl Tryz.func96 Zk rfl (fun w1 hw1 => r_find w1 (hx.rd (L := [_]) (hw1.perm (List.perm_append_comm (l₁ := [_])))) hlen fs[k].hd) ?_
  refine Xa ?_
  refine Ze (Zt (Zs (Zr ?_)))
  refine Xf 2 rfl u28 rfl sz3 ?_
  refine Xl rfl u3 rfl (at_ownL (vs := fs[k].cells) (.head _) rfl) ?_
  refine Ze (Zt (w_block (Zs (Zr ?_))))
  refine Xb rfl (v_eql rfl rfl) fun b47 hb47 => ?_
  refine Xa ?_
  refine Ze (Zt ?_)
  refine w_cond rfl (fun hc46 => ?_) fun hc46 => ?_
  ·simp only [hb47, Qz, ne_eq] at hc46
   have hk1 : fs[k].kind = 1 := hc46
   have hnew := acc_new (hs := (stF (fs.take k)).hs) hk1
   have hl2 : l2 = (stF (fs.take k)).hs ++ [⟨fs[k].hd, fs[k].txt, [], [], 0⟩] := by
    rw [hso] at hnew
    cases hq : lkH (stF (fs.take k)).hs fs[k].hd with
    | none => rw [hq] at hnew; injection hnew
    | some q => rw [hq] at hnew; cases hnew
   subst hl2
   refine rg_inv ([(p5, Obj.cells fs[k].cells.toArray 28), (Bk x.ps [rowV x.H x.hs.length, rowV x.R (stF (fs.take k)).ref.length] 144)]) 14 (.flt 0 (.flt 1 (.flt 2 (.flt 3 (.flt 4 (.flt 5 (.flt 6 (.flt 7 (.flt 8 (.flt 9 (.gr 10 (.gr 11 (.flt 12 (.flt 13 .done)) .nil) .nil))))))))))) (((List.nil_sublist _).cons_cons _).cons_cons _) Zk Zk ?_
   refine j_val rfl rfl (v_move rfl) ?_
   refine j_val rfl rfl (v_move rfl) ?_
   refine j_val rfl rfl (v_nilCheck rfl) ?_
   refine j_val rfl rfl (v_fieldAddr (off' := 0) u144 rfl sz142 (by decide) rfl rfl) ?_
   refine j_val rfl rfl (v_load u142 rfl rfl (at_ownL (vs := [rowV x.H x.hs.length, rowV x.R (stF (fs.take k)).ref.length]) (.tail _ (.head _)) rfl)) ?_
   refine j_val rfl rfl (v_fieldAddr (off' := 3) u28 rfl sz3 (by decide) rfl rfl) ?_
   refine j_val rfl rfl (v_load u3 rfl rfl (at_ownL (vs := fs[k].cells) (.head _) rfl)) ?_
   refine j_val rfl rfl (v_fieldAddr (off' := 5) u28 rfl sz9 (by decide) rfl rfl) ?_
   refine j_val rfl rfl (v_load u9 rfl rfl (at_ownL (vs := fs[k].cells) (.head _) rfl)) ?_
   refine j_val (v := Value.agg (hrC (⟨⟨fs[k].hd, fs[k].txt, [], [], 0⟩, none, none⟩ : HR)).toArray) rfl rfl (v_buildL (cs := hrC (⟨⟨fs[k].hd, fs[k].txt, [], [], 0⟩, none, none⟩ : HR)) (places := [(0, 1), (1, 1), (2, 1), (3, 1), (4, 1)]) u148 zr148 Zk rfl rfl) ?_
   refine j_gr ?_ j_nil
   refine x_buildSliceL (cs := hrC (⟨⟨fs[k].hd, fs[k].txt, [], [], 0⟩, none, none⟩ : HR)) rfl rfl rfl u142 sz148 zr148 rfl rfl rfl ?_
   intro p58
   refine Ze ?_
   refine j_end ((((List.nil_sublist _).cons_cons _).cons_cons _).cons _) ?_
   refine j_gr ?_ j_nil
   refine x_append (e := 148) [(Bk p58 (hrC (⟨⟨fs[k].hd, fs[k].txt, [], [], 0⟩, none, none⟩ : HR)) 148), (p5, Obj.cells fs[k].cells.toArray 28), (Bk x.ps [rowV x.H x.hs.length, rowV x.R (stF (fs.take k)).ref.length] 144)] (l2 := rowO 28 x.R ++ HRO x.hs) x.H (len := x.hs.length) (xs := x.hs.flatMap hrC) rfl rfl rfl rfl rfl hx.row u142 ap148 rfl rfl (m := 1) (news := hrC (⟨⟨fs[k].hd, fs[k].txt, [], [], 0⟩, none, none⟩ : HR)) (fun i hi => at_ownL (vs := hrC (⟨⟨fs[k].hd, fs[k].txt, [], [], 0⟩, none, none⟩ : HR)) (.head _) (by rw [Nat.zero_add]; exact List.getElem?_eq_getElem hi)) rfl Zx (by omega) fun H' hH' => ?_
   refine Ze ?_
   refine j_end ((((List.nil_sublist _).cons_cons _).cons_cons _).cons _) ?_
   refine j_val rfl rfl (v_nilCheck rfl) ?_
   refine j_val rfl rfl (v_fieldAddr (off' := 0) u144 rfl sz142 (by decide) rfl rfl) ?_
   refine j_done ?_
   refine x_store (cs := [rowV x.H x.hs.length, rowV x.R (stF (fs.take k)).ref.length]) (off := 0) (e := 144) (l2 := rowO 148 H' ++ (rowO 28 x.R ++ HRO x.hs)) [(Bk p58 (hrC (⟨⟨fs[k].hd, fs[k].txt, [], [], 0⟩, none, none⟩ : HR)) 148), (p5, Obj.cells fs[k].cells.toArray 28)] rfl rfl rfl rfl sz142 rfl (by show 0 + 1 ≤ 2; decide) ?_
   refine Ze (b_norm (b_norm (Zt (Zr ?_))))
   refine Xm ?_
   refine Xv rfl (v_addi rfl rfl rfl Zo) ?_
   refine Xa ?_
   refine Ze ?_
   exact l_norm (k + 1, { x with H := H', hs := x.hs ++ [(⟨⟨fs[k].hd, fs[k].txt, [], [], 0⟩, none, none⟩ : HR)] }) ⟨hkl, by dsimp only; rw [take_st hkl, app_some hso]; exact ⟨by show gsR (x.hs ++ [_]) = _; unfold gsR; rw [List.map_append]; have q1 := hx.hs; unfold gsR at q1; rw [q1]; rfl, by rw [List.length_append, List.flatMap_append]; exact (by simpa using hH'), fun y hy => (List.mem_append.1 hy).elim (hx.ok y) (fun h => by rw [List.mem_singleton.1 h]; exact ⟨rowOK_nil, rowOK_nil⟩), hx.rf⟩⟩ (by simp only; omega) Zu (fun w1 h => (h.less ((List.sublist_cons_self _ _).trans (List.sublist_cons_self _ _)) (fun _ h => h)).to (by dsimp only; rw [take_st hkl, app_some hso]; simp [SRO, HRO, hrO, rowO]; rfl))
  simp only [hb47, Qz, ne_eq] at hc46
  have hk1 : fs[k].kind ≠ 1 := hc46
  obtain ⟨g0, hg0, hg1⟩ : ∃ g, lkH (stF (fs.take k)).hs fs[k].hd = some g ∧ g.into = 0 := by
   cases hq : lkH (stF (fs.take k)).hs fs[k].hd with
   | none => rw [acc_dead hk1 (fun g hg => by rw [hq] at hg; cases hg)] at hso; cases hso
   | some g =>
    by_cases h0 : g.into = 0
    ·exact ⟨g, rfl, h0⟩
    rw [acc_dead hk1 (fun g' hg => by rw [hq] at hg; injection hg with hg; rw [← hg]; exact h0)] at hso; cases hso
  obtain ⟨i, hi, hf⟩ := fidx_lt ((fdR_lk x.hs fs[k].hd).2.2.2 (by rw [hx.hs, hg0]; rfl))
  have hf : fdR x.hs fs[k].hd = (i : Nat) := hf
  have hgi : x.hs[i].g = g0 := by have q1 := (fdR_lk x.hs fs[k].hd).1 i hi hf; rw [hx.hs, hg0] at q1; injection q1 with q1; exact q1.symm
  have hgid : g0.id = fs[k].hd := (lkH_mem hg0).2
  obtain ⟨gH, csH, cpH, hRH, hcpH, hclH⟩ := row_at (c := hrC) (m := 5) (fun _ => rfl) (by decide) hx.row hi
  have hrow := hx.row
  rw [hRH] at hrow
  rw [hf]
  refine w_memH (own' := (p5, Obj.cells fs[k].cells.toArray 28) :: (Bk x.ps [Value.slice (some ⟨gH, 0, none⟩) x.hs.length cpH, rowV x.R (stF (fs.take k)).ref.length] 144) :: (Bk gH csH 148) :: (rowO 28 x.R ++ HRO x.hs)) (fun w1 h => h.to (by unfold SRO; rw [hRH]; rfl)) ?_
  refine Zs (Zr ?_)
  refine Xb rfl (v_eql rfl rfl) fun b63 hb63 => ?_
  refine Xa ?_
  refine Ze (Zt ?_)
  refine w_cond rfl (fun hc62 => ?_) fun hc62 => ?_
  ·simp only [hb63, Qz, ne_eq] at hc62
   have hk2 : fs[k].kind = 2 := hc62
   have hl2 := acc_name hk2 hg0 hg1
   rw [hso] at hl2
   injection hl2 with hl2
   subst hl2
   refine Zs ?_
   obtain ⟨A1, C1, hA1, hA2⟩ := HRO_spl hi
   have hoi := hx.ok _ (List.getElem_mem hi)
   have hbi := hbd.oth x.hs[i].g (by rw [← hx.hs]; exact List.mem_map_of_mem (List.getElem_mem hi))
   refine w_memH (own' := (p5, Obj.cells fs[k].cells.toArray 28) :: (Bk x.ps [Value.slice (some ⟨gH, 0, none⟩) x.hs.length cpH, rowV x.R (stF (fs.take k)).ref.length] 144) :: (Bk gH csH 148) :: (rowO 28 x.R ++ (A1 ++ (rowO 9 x.hs[i].O ++ (rowO 150 x.hs[i].S ++ C1))))) (fun w1 h => h.to (by rw [hA1]; unfold hrO; rw [List.append_assoc (rowO 9 x.hs[i].O)])) ?_
   refine rg_inv ([(p5, Obj.cells fs[k].cells.toArray 28), (Bk x.ps [Value.slice (some ⟨gH, 0, none⟩) x.hs.length cpH, rowV x.R (stF (fs.take k)).ref.length] 144), (Bk gH csH 148)]) 25 (.flt 0 (.flt 1 (.flt 2 (.flt 3 (.flt 4 (.flt 5 (.flt 6 (.flt 7 (.flt 8 (.flt 9 (.flt 10 (.flt 11 (.flt 12 (.flt 13 (.flt 14 (.flt 15 (.flt 16 (.flt 17 (.flt 18 (.flt 19 (.flt 20 (.gr 21 (.gr 22 (.flt 23 (.flt 24 .done)) .nil) .nil)))))))))))))))))))))) ((((List.nil_sublist _).cons_cons _).cons_cons _).cons_cons _) Zk Zk ?_
   refine j_val rfl rfl (v_move rfl) ?_
   refine j_val rfl rfl (v_nilCheck rfl) ?_
   refine j_val rfl rfl (v_fieldAddr (off' := 0) u144 rfl sz142 (by decide) rfl rfl) ?_
   refine j_val rfl rfl (v_load u142 rfl rfl (at_ownL (vs := [Value.slice (some ⟨gH, 0, none⟩) x.hs.length cpH, rowV x.R (stF (fs.take k)).ref.length]) (.tail _ (.head _)) rfl)) ?_
   refine j_val rfl rfl (v_move rfl) ?_
   refine j_val rfl rfl (v_move rfl) ?_
   refine j_val rfl rfl (v_nilCheck rfl) ?_
   refine j_val rfl rfl (v_fieldAddr (off' := 0) u144 rfl sz142 (by decide) rfl rfl) ?_
   refine j_val rfl rfl (v_load u142 rfl rfl (at_ownL (vs := [Value.slice (some ⟨gH, 0, none⟩) x.hs.length cpH, rowV x.R (stF (fs.take k)).ref.length]) (.tail _ (.head _)) rfl)) ?_
   refine j_val rfl rfl (v_move rfl) ?_
   refine j_val rfl rfl (v_indexAddr (j := i) u142 sz148 rfl rfl hi (Nat.zero_add _)) ?_
   refine j_val rfl rfl (v_fieldAddr u148 rfl sz38 (by decide) rfl rfl) ?_
   refine j_val rfl rfl (v_load u38 rfl rfl (at_ownL (vs := csH) (v := rowV x.hs[i].O x.hs[i].g.oth.length) (.tail _ (.tail _ (.head _))) (hclH 2 (by decide)))) ?_
   refine j_val rfl rfl (v_move rfl) ?_
   refine j_val rfl rfl (v_nilCheck rfl) ?_
   refine j_val rfl rfl (v_fieldAddr (off' := 0) u144 rfl sz142 (by decide) rfl rfl) ?_
   refine j_val rfl rfl (v_load u142 rfl rfl (at_ownL (vs := [Value.slice (some ⟨gH, 0, none⟩) x.hs.length cpH, rowV x.R (stF (fs.take k)).ref.length]) (.tail _ (.head _)) rfl)) ?_
   refine j_val rfl rfl (v_move rfl) ?_
   refine j_val rfl rfl (v_indexAddr (j := i) u142 sz148 rfl rfl hi (Nat.zero_add _)) ?_
   refine j_val rfl rfl (v_fieldAddr u148 rfl sz9 (by decide) rfl rfl) ?_
   refine j_val rfl rfl (v_load u9 rfl rfl (at_ownL (vs := csH) (v := Value.string x.hs[i].g.name) (.tail _ (.tail _ (.head _))) (hclH 1 (by decide)))) ?_
   refine j_gr ?_ j_nil
   refine x_buildSliceL (cs := [Value.string x.hs[i].g.name]) rfl rfl rfl u38 sz9 zr9 rfl rfl rfl ?_
   intro p85
   refine Ze ?_
   refine j_end (((((List.nil_sublist _).cons_cons _).cons_cons _).cons_cons _).cons _) ?_
   refine j_gr ?_ j_nil
   refine x_append (e := 9) ((Bk p85 [Value.string x.hs[i].g.name] 9) :: (p5, Obj.cells fs[k].cells.toArray 28) :: (Bk x.ps [Value.slice (some ⟨gH, 0, none⟩) x.hs.length cpH, rowV x.R (stF (fs.take k)).ref.length] 144) :: (Bk gH csH 148) :: (rowO 28 x.R ++ A1)) (l2 := rowO 150 x.hs[i].S ++ C1) x.hs[i].O (len := x.hs[i].g.oth.length) (xs := x.hs[i].g.oth.map Value.string) rfl rfl rfl rfl (by simp only [List.cons_append, List.append_assoc]) hoi.1 u38 ap9 rfl rfl (m := 1) (news := [Value.string x.hs[i].g.name]) (fun i9 hi9 => at_ownL (vs := [Value.string x.hs[i].g.name]) (.head _) (by rw [Nat.zero_add]; exact List.getElem?_eq_getElem hi9)) rfl (by have := hbi.1; simp only [maxLen]; omega) (by have := hbi.1; omega) fun O' hO' => ?_
   refine x_mem (own' := (Bk p85 [Value.string x.hs[i].g.name] 9) :: (p5, Obj.cells fs[k].cells.toArray 28) :: (Bk x.ps [Value.slice (some ⟨gH, 0, none⟩) x.hs.length cpH, rowV x.R (stF (fs.take k)).ref.length] 144) :: (Bk gH csH 148) :: (rowO 28 x.R ++ (A1 ++ (rowO 9 O' ++ (rowO 150 x.hs[i].S ++ C1))))) (fun _ h => h.to (by simp only [List.cons_append, List.append_assoc])) ?_
   refine Ze ?_
   refine j_end (((((List.nil_sublist _).cons_cons _).cons_cons _).cons_cons _).cons _) ?_
   refine j_val rfl rfl (v_indexAddr (j := i) u142 sz148 rfl rfl hi (Nat.zero_add _)) ?_
   refine j_val rfl rfl (v_fieldAddr u148 rfl sz38 (by decide) rfl rfl) ?_
   refine j_done ?_
   refine x_store (cs := csH) (off := i * 5 + 2) (e := 148) (l2 := rowO 28 x.R ++ (A1 ++ (rowO 9 O' ++ (rowO 150 x.hs[i].S ++ C1)))) [(Bk p85 [Value.string x.hs[i].g.name] 9), (p5, Obj.cells fs[k].cells.toArray 28), (Bk x.ps [Value.slice (some ⟨gH, 0, none⟩) x.hs.length cpH, rowV x.R (stF (fs.take k)).ref.length] 144)] rfl rfl rfl rfl sz38 rfl (by obtain ⟨_, q2, _, q4, _⟩ := hrow; dsimp only at q2 q4; omega) ?_
   refine Ze (Zt ?_)
   have hr2 := row_fld (c := hrC) (m := 5) (fun _ => rfl) hrow hi (f := 2) (by decide) (v := rowV O' (x.hs[i].g.oth.length + 1)) (x := (⟨{ x.hs[i].g with oth := x.hs[i].g.oth ++ [x.hs[i].g.name] }, O', x.hs[i].S⟩ : HR)) (by show hrC _ = _; unfold hrC; rw [List.length_append]; rfl)
   have hr1 := row_fld (c := hrC) (m := 5) (fun _ => rfl) hr2 (i := i) (by rw [List.length_set]; exact hi) (f := 1) (by decide) (v := Value.string fs[k].txt) (x := (⟨{ x.hs[i].g with name := fs[k].txt, oth := x.hs[i].g.oth ++ [x.hs[i].g.name] }, O', x.hs[i].S⟩ : HR)) (by rw [List.getElem_set_self]; rfl)
   rw [List.set_set] at hr1
   refine rg_draw 9 [(true, 0), (true, 1), (true, 2), (true, 3), (true, 4), (true, 5), (true, 6), (true, 7), (true, 8)] Zk Zk ?_
   refine Xm ?_
   refine Xn ?_
   refine Xf 0 rfl u144 rfl sz142 ?_
   refine Xl rfl u142 rfl (at_ownL (vs := [Value.slice (some ⟨gH, 0, none⟩) x.hs.length cpH, rowV x.R (stF (fs.take k)).ref.length]) (.tail _ (.tail _ (.head _))) rfl) ?_
   refine Xm ?_
   refine Xf 5 rfl u28 rfl sz9 ?_
   refine Xl rfl u9 rfl (at_ownL (vs := fs[k].cells) (.tail _ (.head _)) rfl) ?_
   refine Xv rfl (v_indexAddr (j := i) u142 sz148 rfl rfl hi (Nat.zero_add _)) ?_
   refine Xf _ rfl u148 rfl sz9 ?_
   refine x_store (cs := csH.take (i * 5 + 2) ++ [rowV O' (x.hs[i].g.oth.length + 1)] ++ csH.drop (i * 5 + 2 + 1)) (off := i * 5 + 1) (e := 148) (l2 := rowO 28 x.R ++ (A1 ++ (rowO 9 O' ++ (rowO 150 x.hs[i].S ++ C1)))) [(Bk p85 [Value.string x.hs[i].g.name] 9), (p5, Obj.cells fs[k].cells.toArray 28), (Bk x.ps [Value.slice (some ⟨gH, 0, none⟩) x.hs.length cpH, rowV x.R (stF (fs.take k)).ref.length] 144)] rfl rfl rfl rfl sz9 rfl (by obtain ⟨_, q2, _, q4, _⟩ := hr2; dsimp only at q2 q4; rw [List.length_set] at q2; omega) ?_
   refine Ze (b_norm (b_norm (Zt (Zr ?_))))
   refine Xm ?_
   refine Xv rfl (v_addi rfl rfl rfl Zo) ?_
   refine Xa ?_
   refine Ze ?_
   exact l_norm (k + 1, { x with hs := x.hs.set i (⟨{ x.hs[i].g with name := fs[k].txt, oth := x.hs[i].g.oth ++ [x.hs[i].g.name] }, O', x.hs[i].S⟩ : HR), H := some (gH, (csH.take (i * 5 + 2) ++ [rowV O' (x.hs[i].g.oth.length + 1)] ++ csH.drop (i * 5 + 2 + 1)).take (i * 5 + 1) ++ [Value.string fs[k].txt] ++ (csH.take (i * 5 + 2) ++ [rowV O' (x.hs[i].g.oth.length + 1)] ++ csH.drop (i * 5 + 2 + 1)).drop (i * 5 + 1 + 1), cpH) }) ⟨hkl, by dsimp only; rw [take_st hkl, app_some hso, ← hgi]; exact hx.set hi hf (x' := (⟨{ x.hs[i].g with name := fs[k].txt, oth := x.hs[i].g.oth ++ [x.hs[i].g.name] }, O', x.hs[i].S⟩ : HR)) (by show x.hs[i].g.id = _; rw [hgi]; exact hgid) ⟨by dsimp only; rw [List.length_append, List.map_append]; exact hO', hoi.2⟩ hr1⟩ (by simp only; omega) Zu (fun w1 h => (h.less ((List.sublist_cons_self _ _).trans (List.sublist_cons_self _ _)) (fun _ h => h)).to (by dsimp only; rw [take_st hkl, app_some hso]; unfold SRO; dsimp only; rw [List.length_set, hA2]; unfold hrO; dsimp only; rw [List.append_assoc (rowO 9 O')]; rfl))
  simp only [hb63, Qz, ne_eq] at hc62
  refine Zs (Zr ?_)
  refine Xb rfl (v_eql rfl rfl) fun b99 hb99 => ?_
  refine Xa ?_
  refine Ze (Zt ?_)
  refine w_cond rfl (fun hc98 => ?_) fun hc98 => ?_
  ·simp only [hb99, Qz, ne_eq] at hc98
   have hk3 : fs[k].kind = 3 := hc98
   have hl2 := acc_see hk3 hg0 hg1
   rw [hso] at hl2
   injection hl2 with hl2
   subst hl2
   obtain ⟨A1, C1, hA1, hA2⟩ := HRO_spl hi
   have hoi := hx.ok _ (List.getElem_mem hi)
   have hbi := hbd.oth x.hs[i].g (by rw [← hx.hs]; exact List.mem_map_of_mem (List.getElem_mem hi))
   refine w_memH (own' := (p5, Obj.cells fs[k].cells.toArray 28) :: (Bk x.ps [Value.slice (some ⟨gH, 0, none⟩) x.hs.length cpH, rowV x.R (stF (fs.take k)).ref.length] 144) :: (Bk gH csH 148) :: (rowO 28 x.R ++ (A1 ++ (rowO 9 x.hs[i].O ++ (rowO 150 x.hs[i].S ++ C1))))) (fun w1 h => h.to (by rw [hA1]; unfold hrO; rw [List.append_assoc (rowO 9 x.hs[i].O)])) ?_
   refine rg_inv ([(p5, Obj.cells fs[k].cells.toArray 28), (Bk x.ps [Value.slice (some ⟨gH, 0, none⟩) x.hs.length cpH, rowV x.R (stF (fs.take k)).ref.length] 144), (Bk gH csH 148)]) 19 (.flt 0 (.flt 1 (.flt 2 (.flt 3 (.flt 4 (.flt 5 (.flt 6 (.flt 7 (.flt 8 (.flt 9 (.flt 10 (.flt 11 (.flt 12 (.flt 13 (.flt 14 (.gr 15 (.gr 16 (.flt 17 (.flt 18 .done)) .nil) .nil)))))))))))))))) ((((List.nil_sublist _).cons_cons _).cons_cons _).cons_cons _) Zk Zk ?_
   refine j_val rfl rfl (v_move rfl) ?_
   refine j_val rfl rfl (v_nilCheck rfl) ?_
   refine j_val rfl rfl (v_fieldAddr (off' := 0) u144 rfl sz142 (by decide) rfl rfl) ?_
   refine j_val rfl rfl (v_load u142 rfl rfl (at_ownL (vs := [Value.slice (some ⟨gH, 0, none⟩) x.hs.length cpH, rowV x.R (stF (fs.take k)).ref.length]) (.tail _ (.head _)) rfl)) ?_
   refine j_val rfl rfl (v_move rfl) ?_
   refine j_val rfl rfl (v_move rfl) ?_
   refine j_val rfl rfl (v_nilCheck rfl) ?_
   refine j_val rfl rfl (v_fieldAddr (off' := 0) u144 rfl sz142 (by decide) rfl rfl) ?_
   refine j_val rfl rfl (v_load u142 rfl rfl (at_ownL (vs := [Value.slice (some ⟨gH, 0, none⟩) x.hs.length cpH, rowV x.R (stF (fs.take k)).ref.length]) (.tail _ (.head _)) rfl)) ?_
   refine j_val rfl rfl (v_move rfl) ?_
   refine j_val rfl rfl (v_indexAddr (j := i) u142 sz148 rfl rfl hi (Nat.zero_add _)) ?_
   refine j_val rfl rfl (v_fieldAddr u148 rfl sz38 (by decide) rfl rfl) ?_
   refine j_val rfl rfl (v_load u38 rfl rfl (at_ownL (vs := csH) (v := rowV x.hs[i].O x.hs[i].g.oth.length) (.tail _ (.tail _ (.head _))) (hclH 2 (by decide)))) ?_
   refine j_val rfl rfl (v_fieldAddr (off' := 5) u28 rfl sz9 (by decide) rfl rfl) ?_
   refine j_val rfl rfl (v_load u9 rfl rfl (at_ownL (vs := fs[k].cells) (.head _) rfl)) ?_
   refine j_gr ?_ j_nil
   refine x_buildSliceL (cs := [Value.string fs[k].txt]) rfl rfl rfl u38 sz9 zr9 rfl rfl rfl ?_
   intro p115
   refine Ze ?_
   refine j_end (((((List.nil_sublist _).cons_cons _).cons_cons _).cons_cons _).cons _) ?_
   refine j_gr ?_ j_nil
   refine x_append (e := 9) ((Bk p115 [Value.string fs[k].txt] 9) :: (p5, Obj.cells fs[k].cells.toArray 28) :: (Bk x.ps [Value.slice (some ⟨gH, 0, none⟩) x.hs.length cpH, rowV x.R (stF (fs.take k)).ref.length] 144) :: (Bk gH csH 148) :: (rowO 28 x.R ++ A1)) (l2 := rowO 150 x.hs[i].S ++ C1) x.hs[i].O (len := x.hs[i].g.oth.length) (xs := x.hs[i].g.oth.map Value.string) rfl rfl rfl rfl (by simp only [List.cons_append, List.append_assoc]) hoi.1 u38 ap9 rfl rfl (m := 1) (news := [Value.string fs[k].txt]) (fun i hi => at_ownL (vs := [Value.string fs[k].txt]) (.head _) (by rw [Nat.zero_add]; exact List.getElem?_eq_getElem hi)) rfl (by have := hbi.1; simp only [maxLen]; omega) (by have := hbi.1; omega) fun O' hO' => ?_
   refine x_mem (own' := (Bk p115 [Value.string fs[k].txt] 9) :: (p5, Obj.cells fs[k].cells.toArray 28) :: (Bk x.ps [Value.slice (some ⟨gH, 0, none⟩) x.hs.length cpH, rowV x.R (stF (fs.take k)).ref.length] 144) :: (Bk gH csH 148) :: (rowO 28 x.R ++ (A1 ++ (rowO 9 O' ++ (rowO 150 x.hs[i].S ++ C1))))) (fun _ h => h.to (by simp only [List.cons_append, List.append_assoc])) ?_
   refine Ze ?_
   refine j_end (((((List.nil_sublist _).cons_cons _).cons_cons _).cons_cons _).cons _) ?_
   refine j_val rfl rfl (v_indexAddr (j := i) u142 sz148 rfl rfl hi (Nat.zero_add _)) ?_
   refine j_val rfl rfl (v_fieldAddr u148 rfl sz38 (by decide) rfl rfl) ?_
   refine j_done ?_
   refine x_store (cs := csH) (off := i * 5 + 2) (e := 148) (l2 := rowO 28 x.R ++ (A1 ++ (rowO 9 O' ++ (rowO 150 x.hs[i].S ++ C1)))) [(Bk p115 [Value.string fs[k].txt] 9), (p5, Obj.cells fs[k].cells.toArray 28), (Bk x.ps [Value.slice (some ⟨gH, 0, none⟩) x.hs.length cpH, rowV x.R (stF (fs.take k)).ref.length] 144)] rfl rfl rfl rfl sz38 rfl (by obtain ⟨_, q2, _, q4, _⟩ := hrow; dsimp only at q2 q4; omega) ?_
   refine Ze (b_norm (b_norm (Zt (Zr ?_))))
   refine Xm ?_
   refine Xv rfl (v_addi rfl rfl rfl Zo) ?_
   refine Xa ?_
   refine Ze ?_
   have hr2 := row_fld (c := hrC) (m := 5) (fun _ => rfl) hrow hi (f := 2) (by decide) (v := rowV O' (x.hs[i].g.oth.length + 1)) (x := (⟨{ x.hs[i].g with oth := x.hs[i].g.oth ++ [fs[k].txt] }, O', x.hs[i].S⟩ : HR)) (by show hrC _ = _; unfold hrC; rw [List.length_append]; rfl)
   exact l_norm (k + 1, { x with hs := x.hs.set i (⟨{ x.hs[i].g with oth := x.hs[i].g.oth ++ [fs[k].txt] }, O', x.hs[i].S⟩ : HR), H := some (gH, csH.take (i * 5 + 2) ++ [rowV O' (x.hs[i].g.oth.length + 1)] ++ csH.drop (i * 5 + 2 + 1), cpH) }) ⟨hkl, by dsimp only; rw [take_st hkl, app_some hso, ← hgi]; exact hx.set hi hf (x' := (⟨{ x.hs[i].g with oth := x.hs[i].g.oth ++ [fs[k].txt] }, O', x.hs[i].S⟩ : HR)) (by show x.hs[i].g.id = _; rw [hgi]; exact hgid) ⟨by dsimp only; rw [List.length_append, List.map_append]; exact hO', hoi.2⟩ hr2⟩ (by simp only; omega) Zu (fun w1 h => (h.less ((List.sublist_cons_self _ _).trans (List.sublist_cons_self _ _)) (fun _ h => h)).to (by dsimp only; rw [take_st hkl, app_some hso]; unfold SRO; dsimp only; rw [List.length_set, hA2]; unfold hrO; dsimp only; rw [List.append_assoc (rowO 9 O')]; rfl))
  simp only [hb99, Qz, ne_eq] at hc98
  refine Zs (Zr ?_)
  refine Xb rfl (v_eql rfl rfl) fun b120 hb120 => ?_
  refine Xa ?_
  refine Ze (Zt ?_)
  refine w_cond rfl (fun hc119 => ?_) fun hc119 => ?_
  ·simp only [hb120, Qz, ne_eq] at hc119
   have hk4 : fs[k].kind = 4 := hc119
   have hmay : (lkH (stF (fs.take k)).hs fs[k].to).isSome = true ∧ rchB (stF (fs.take k)).hs fs[k].hd fs[k].to = false := by
    cases hq : lkH (stF (fs.take k)).hs fs[k].to with
    | none => rw [acc_may (by omega) (.inl hq)] at hso; cases hso
    | some q =>
     cases hr : rchB (stF (fs.take k)).hs fs[k].hd fs[k].to with
     | true => rw [acc_may (by omega) (.inr hr)] at hso; cases hso
     | false => exact ⟨rfl, rfl⟩
   have hl2 := acc_merge hk4 hg0 hg1 hmay.1 hmay.2
   rw [hso] at hl2
   injection hl2 with hl2
   subst hl2
   refine rg_draw 9 [(true, 0), (true, 1), (true, 2), (true, 3), (true, 4), (true, 5), (true, 6), (true, 7), (true, 8)] Zk Zk ?_
   refine Xm ?_
   refine Xn ?_
   refine Xf 0 rfl u144 rfl sz142 ?_
   refine Xl rfl u142 rfl (at_ownL (vs := [Value.slice (some ⟨gH, 0, none⟩) x.hs.length cpH, rowV x.R (stF (fs.take k)).ref.length]) (.tail _ (.head _)) rfl) ?_
   refine Xm ?_
   refine Xf 4 rfl u28 rfl sz3 ?_
   refine Xl rfl u3 rfl (at_ownL (vs := fs[k].cells) (.head _) rfl) ?_
   refine Xv rfl (v_indexAddr (j := i) u142 sz148 rfl rfl hi (Nat.zero_add _)) ?_
   refine Xf _ rfl u148 rfl sz3 ?_
   refine x_store (cs := csH) (off := i * 5 + 4) (e := 148) (l2 := rowO 28 x.R ++ HRO x.hs) [(p5, Obj.cells fs[k].cells.toArray 28), (Bk x.ps [Value.slice (some ⟨gH, 0, none⟩) x.hs.length cpH, rowV x.R (stF (fs.take k)).ref.length] 144)] rfl rfl rfl rfl sz3 rfl (by obtain ⟨_, q2, _, q4, _⟩ := hrow; dsimp only at q2 q4; omega) ?_
   refine Ze (b_norm (b_norm (Zt (Zr ?_))))
   refine Xm ?_
   refine Xv rfl (v_addi rfl rfl rfl Zo) ?_
   refine Xa ?_
   refine Ze ?_
   have hr4 := row_fld (c := hrC) (m := 5) (fun _ => rfl) hrow hi (f := 4) (by decide) (v := Vi fs[k].to) (x := (⟨{ x.hs[i].g with into := fs[k].to }, x.hs[i].O, x.hs[i].S⟩ : HR)) rfl
   exact l_norm (k + 1, { x with hs := x.hs.set i (⟨{ x.hs[i].g with into := fs[k].to }, x.hs[i].O, x.hs[i].S⟩ : HR), H := some (gH, csH.take (i * 5 + 4) ++ [Vi fs[k].to] ++ csH.drop (i * 5 + 4 + 1), cpH) }) ⟨hkl, by dsimp only; rw [take_st hkl, app_some hso, ← hgi]; exact hx.set hi hf (x' := (⟨{ x.hs[i].g with into := fs[k].to }, x.hs[i].O, x.hs[i].S⟩ : HR)) (by show x.hs[i].g.id = _; rw [hgi]; exact hgid) (hx.ok x.hs[i] (List.getElem_mem hi)) hr4⟩ (by simp only; omega) Zu (fun w1 h => (h.less (List.sublist_cons_self _ _) (fun _ h => h)).to (by dsimp only; rw [take_st hkl, app_some hso]; unfold SRO; dsimp only; rw [List.length_set, HRO_same hi (x' := (⟨{ x.hs[i].g with into := fs[k].to }, x.hs[i].O, x.hs[i].S⟩ : HR)) rfl]; rfl))
  simp only [hb120, Qz, ne_eq] at hc119
  refine Zs (Zr ?_)
  refine Xb rfl (v_eql rfl rfl) fun b131 hb131 => ?_
  refine Xa ?_
  refine Ze (Zt ?_)
  refine w_cond rfl (fun hc130 => ?_) fun hc130 => ?_
  ·simp only [hb131, Qz, ne_eq] at hc130
   have hk5 : fs[k].kind = 5 := hc130
   have hmay : (lkH (stF (fs.take k)).hs fs[k].to).isSome = true ∧ rchB (stF (fs.take k)).hs fs[k].hd fs[k].to = false := by
    cases hq : lkH (stF (fs.take k)).hs fs[k].to with
    | none => rw [acc_may (by omega) (.inl hq)] at hso; cases hso
    | some q =>
     cases hr : rchB (stF (fs.take k)).hs fs[k].hd fs[k].to with
     | true => rw [acc_may (by omega) (.inr hr)] at hso; cases hso
     | false => exact ⟨rfl, rfl⟩
   have hl2 := acc_split hk5 hg0 hg1 hmay.1 hmay.2
   rw [hso] at hl2
   injection hl2 with hl2
   subst hl2
   obtain ⟨A1, C1, hA1, hA2⟩ := HRO_spl hi
   have hoi := hx.ok _ (List.getElem_mem hi)
   have hbi := hbd.oth x.hs[i].g (by rw [← hx.hs]; exact List.mem_map_of_mem (List.getElem_mem hi))
   refine w_memH (own' := (p5, Obj.cells fs[k].cells.toArray 28) :: (Bk x.ps [Value.slice (some ⟨gH, 0, none⟩) x.hs.length cpH, rowV x.R (stF (fs.take k)).ref.length] 144) :: (Bk gH csH 148) :: (rowO 28 x.R ++ (A1 ++ (rowO 9 x.hs[i].O ++ (rowO 150 x.hs[i].S ++ C1))))) (fun w1 h => h.to (by rw [hA1]; unfold hrO; rw [List.append_assoc (rowO 9 x.hs[i].O)])) ?_
   have hsz2 := hsz _ (List.getElem_mem hkl)
   refine rg_inv ([(p5, Obj.cells fs[k].cells.toArray 28), (Bk x.ps [Value.slice (some ⟨gH, 0, none⟩) x.hs.length cpH, rowV x.R (stF (fs.take k)).ref.length] 144), (Bk gH csH 148)]) 23 (.flt 0 (.flt 1 (.flt 2 (.flt 3 (.flt 4 (.flt 5 (.flt 6 (.flt 7 (.flt 8 (.flt 9 (.flt 10 (.flt 11 (.flt 12 (.flt 13 (.flt 14 (.flt 15 (.flt 16 (.flt 17 (.flt 18 (.gr 19 (.gr 20 (.flt 21 (.flt 22 .done)) .nil) .nil)))))))))))))))))))) ((((List.nil_sublist _).cons_cons _).cons_cons _).cons_cons _) Zk Zk ?_
   refine j_val rfl rfl (v_move rfl) ?_
   refine j_val rfl rfl (v_nilCheck rfl) ?_
   refine j_val rfl rfl (v_fieldAddr (off' := 0) u144 rfl sz142 (by decide) rfl rfl) ?_
   refine j_val rfl rfl (v_load u142 rfl rfl (at_ownL (vs := [Value.slice (some ⟨gH, 0, none⟩) x.hs.length cpH, rowV x.R (stF (fs.take k)).ref.length]) (.tail _ (.head _)) rfl)) ?_
   refine j_val rfl rfl (v_move rfl) ?_
   refine j_val rfl rfl (v_move rfl) ?_
   refine j_val rfl rfl (v_nilCheck rfl) ?_
   refine j_val rfl rfl (v_fieldAddr (off' := 0) u144 rfl sz142 (by decide) rfl rfl) ?_
   refine j_val rfl rfl (v_load u142 rfl rfl (at_ownL (vs := [Value.slice (some ⟨gH, 0, none⟩) x.hs.length cpH, rowV x.R (stF (fs.take k)).ref.length]) (.tail _ (.head _)) rfl)) ?_
   refine j_val rfl rfl (v_move rfl) ?_
   refine j_val rfl rfl (v_indexAddr (j := i) u142 sz148 rfl rfl hi (Nat.zero_add _)) ?_
   refine j_val rfl rfl (v_fieldAddr u148 rfl sz146 (by decide) rfl rfl) ?_
   refine j_val rfl rfl (v_load u146 rfl rfl (at_ownL (vs := csH) (v := rowV x.hs[i].S x.hs[i].g.spl.length) (.tail _ (.tail _ (.head _))) (hclH 3 (by decide)))) ?_
   refine j_val rfl rfl (v_fieldAddr (off' := 5) u28 rfl sz9 (by decide) rfl rfl) ?_
   refine j_val rfl rfl (v_load u9 rfl rfl (at_ownL (vs := fs[k].cells) (.head _) rfl)) ?_
   refine j_callv rfl rfl Tryz.func22 Zk rfl (fun w1 hw1 => r_Fold fs[k].txt w1 hsz2) ?_
   refine j_val rfl rfl (v_fieldAddr (off' := 4) u28 rfl sz3 (by decide) rfl rfl) ?_
   refine j_val rfl rfl (v_load u3 rfl rfl (at_ownL (vs := fs[k].cells) (.head _) rfl)) ?_
   refine j_val (v := Value.agg (splC (foldS fs[k].txt, fs[k].to)).toArray) rfl rfl (v_buildL (cs := splC (foldS fs[k].txt, fs[k].to)) (places := [(0, 1), (1, 1)]) u150 zr150 Zk rfl rfl) ?_
   refine j_gr ?_ j_nil
   refine x_buildSliceL (cs := splC (foldS fs[k].txt, fs[k].to)) rfl rfl rfl u146 sz150 zr150 rfl rfl rfl ?_
   intro p151
   refine Ze ?_
   refine j_end (((((List.nil_sublist _).cons_cons _).cons_cons _).cons_cons _).cons _) ?_
   refine j_gr ?_ j_nil
   refine x_append (e := 150) ((Bk p151 (splC (foldS fs[k].txt, fs[k].to)) 150) :: (p5, Obj.cells fs[k].cells.toArray 28) :: (Bk x.ps [Value.slice (some ⟨gH, 0, none⟩) x.hs.length cpH, rowV x.R (stF (fs.take k)).ref.length] 144) :: (Bk gH csH 148) :: (rowO 28 x.R ++ (A1 ++ rowO 9 x.hs[i].O))) (l2 := C1) x.hs[i].S (len := x.hs[i].g.spl.length) (xs := x.hs[i].g.spl.flatMap splC) rfl rfl rfl rfl (by simp only [List.cons_append, List.append_assoc]) hoi.2 u146 ap150 rfl rfl (m := 1) (news := splC (foldS fs[k].txt, fs[k].to)) (fun i hi => at_ownL (vs := splC (foldS fs[k].txt, fs[k].to)) (.head _) (by rw [Nat.zero_add]; exact List.getElem?_eq_getElem hi)) rfl (by have := hbi.2; simp only [maxLen]; omega) (by have := hbi.2; omega) fun S' hS' => ?_
   refine x_mem (own' := (Bk p151 (splC (foldS fs[k].txt, fs[k].to)) 150) :: (p5, Obj.cells fs[k].cells.toArray 28) :: (Bk x.ps [Value.slice (some ⟨gH, 0, none⟩) x.hs.length cpH, rowV x.R (stF (fs.take k)).ref.length] 144) :: (Bk gH csH 148) :: (rowO 28 x.R ++ (A1 ++ (rowO 9 x.hs[i].O ++ (rowO 150 S' ++ C1))))) (fun _ h => h.to (by simp only [List.cons_append, List.append_assoc])) ?_
   refine Ze ?_
   refine j_end (((((List.nil_sublist _).cons_cons _).cons_cons _).cons_cons _).cons _) ?_
   refine j_val rfl rfl (v_indexAddr (j := i) u142 sz148 rfl rfl hi (Nat.zero_add _)) ?_
   refine j_val rfl rfl (v_fieldAddr u148 rfl sz146 (by decide) rfl rfl) ?_
   refine j_done ?_
   refine x_store (cs := csH) (off := i * 5 + 3) (e := 148) (l2 := rowO 28 x.R ++ (A1 ++ (rowO 9 x.hs[i].O ++ (rowO 150 S' ++ C1)))) [(Bk p151 (splC (foldS fs[k].txt, fs[k].to)) 150), (p5, Obj.cells fs[k].cells.toArray 28), (Bk x.ps [Value.slice (some ⟨gH, 0, none⟩) x.hs.length cpH, rowV x.R (stF (fs.take k)).ref.length] 144)] rfl rfl rfl rfl sz146 rfl (by obtain ⟨_, q2, _, q4, _⟩ := hrow; dsimp only at q2 q4; omega) ?_
   refine Ze (b_norm (b_norm (Zt (Zr ?_))))
   refine Xm ?_
   refine Xv rfl (v_addi rfl rfl rfl Zo) ?_
   refine Xa ?_
   refine Ze ?_
   have hr3 := row_fld (c := hrC) (m := 5) (fun _ => rfl) hrow hi (f := 3) (by decide) (v := rowV S' (x.hs[i].g.spl.length + 1)) (x := (⟨{ x.hs[i].g with spl := x.hs[i].g.spl ++ [(foldS fs[k].txt, fs[k].to)] }, x.hs[i].O, S'⟩ : HR)) (by show hrC _ = _; unfold hrC; rw [List.length_append]; rfl)
   exact l_norm (k + 1, { x with hs := x.hs.set i (⟨{ x.hs[i].g with spl := x.hs[i].g.spl ++ [(foldS fs[k].txt, fs[k].to)] }, x.hs[i].O, S'⟩ : HR), H := some (gH, csH.take (i * 5 + 3) ++ [rowV S' (x.hs[i].g.spl.length + 1)] ++ csH.drop (i * 5 + 3 + 1), cpH) }) ⟨hkl, by dsimp only; rw [take_st hkl, app_some hso, ← hgi]; exact hx.set hi hf (x' := (⟨{ x.hs[i].g with spl := x.hs[i].g.spl ++ [(foldS fs[k].txt, fs[k].to)] }, x.hs[i].O, S'⟩ : HR)) (by show x.hs[i].g.id = _; rw [hgi]; exact hgid) ⟨hoi.1, by dsimp only; rw [List.length_append, List.flatMap_append]; exact (by simpa using hS')⟩ hr3⟩ (by simp only; omega) Zu (fun w1 h => (h.less ((List.sublist_cons_self _ _).trans (List.sublist_cons_self _ _)) (fun _ h => h)).to (by dsimp only; rw [take_st hkl, app_some hso]; unfold SRO; dsimp only; rw [List.length_set, hA2]; unfold hrO; dsimp only; rw [List.append_assoc (rowO 9 x.hs[i].O)]; rfl))
  exfalso
  simp only [hb131, decide_eq_false_iff_not, decide_eq_true_eq] at hc130
  omega
 simp only [hb16, Qz, ne_eq] at hc16
 obtain rfl : k = fs.length := by omega
 refine w_exit ?_
 refine t_exit ?_
 refine t_exit ?_
 refine b_hit ?_
 refine Zt (Zs (Zr ?_))
 refine Xm ?_
 refine Xa ?_
 refine Ze (Zt (w_ret ?_))
 exact ret1 rfl rfl (fun w' hm' => ⟨x, rfl, by rw [List.take_of_length_le (Nat.le_refl _)] at hx; exact hx, by rw [List.take_of_length_le (Nat.le_refl _)] at hm'; exact hm'⟩)
open Go.RowKit Go.PK
open Go.RowKit Go.PK
open Go.RowKit Go.PK
open Go.RowKit Go.PK
theorem c_ex (w : World) :
  Calls Tryz.prog 38 #[] w fun e w' => ∃ R', e = .returned (rowV R' 6) ∧ rowOK 6 R' 6 (fdsC exF) ∧ Mem w' (rowO 28 R') [(w, fun _ => True)] := by
 refine enter (vs := []) Tryz.func38 rfl Tryz.ntmps38 rfl ?_
 refine Zs (Zr ?_)
 refine Xa ?_
 refine Ze (Zt (Zs (Zr ?_)))
 refine Xv (v := Value.agg ((⟨1, 1, 1, 1, 0, T8a⟩ : FD)).cells.toArray) rfl (v_buildL (cs := ((⟨1, 1, 1, 1, 0, T8a⟩ : FD)).cells) (places := [(0, 1), (1, 1), (2, 1), (3, 1), (4, 1), (5, 1)]) u28 zr28 Zk rfl rfl) ?_
 refine Xv (v := Value.agg ((⟨1, 2, 1, 2, 0, T8b⟩ : FD)).cells.toArray) rfl (v_buildL (cs := ((⟨1, 2, 1, 2, 0, T8b⟩ : FD)).cells) (places := [(0, 1), (1, 1), (2, 1), (3, 1), (4, 1), (5, 1)]) u28 zr28 Zk rfl rfl) ?_
 refine Xv (v := Value.agg ((⟨1, 3, 3, 2, 0, T8c⟩ : FD)).cells.toArray) rfl (v_buildL (cs := ((⟨1, 3, 3, 2, 0, T8c⟩ : FD)).cells) (places := [(0, 1), (1, 1), (2, 1), (3, 1), (4, 1), (5, 1)]) u28 zr28 Zk rfl rfl) ?_
 refine Xv (v := Value.agg ((⟨1, 4, 4, 1, 2, ⟨#[]⟩⟩ : FD)).cells.toArray) rfl (v_buildL (cs := ((⟨1, 4, 4, 1, 2, ⟨#[]⟩⟩ : FD)).cells) (places := [(0, 1), (1, 1), (2, 1), (3, 1), (4, 1), (5, 1)]) u28 zr28 Zk rfl rfl) ?_
 refine Xv (v := Value.agg ((⟨1, 5, 1, 3, 0, T8d⟩ : FD)).cells.toArray) rfl (v_buildL (cs := ((⟨1, 5, 1, 3, 0, T8d⟩ : FD)).cells) (places := [(0, 1), (1, 1), (2, 1), (3, 1), (4, 1), (5, 1)]) u28 zr28 Zk rfl rfl) ?_
 refine Xv (v := Value.agg ((⟨1, 6, 5, 2, 3, T8e⟩ : FD)).cells.toArray) rfl (v_buildL (cs := ((⟨1, 6, 5, 2, 3, T8e⟩ : FD)).cells) (places := [(0, 1), (1, 1), (2, 1), (3, 1), (4, 1), (5, 1)]) u28 zr28 Zk rfl rfl) ?_
 refine x_buildSliceL (cs := fdsC exF) rfl rfl rfl u24 sz28 zr28 rfl rfl Zk ?_
 intro p7
 refine Xa ?_
 refine Ze (Zt (w_ret ?_))
 exact ret1 rfl rfl (fun w' hm => ⟨some (p7, fdsC exF, 6), rfl, ⟨rfl, (by show 6 ≤ 6; decide), (by show 6 ≤ maxLen; simp only [maxLen]; omega), rfl, rfl⟩, hm⟩)
theorem c_taken {R : RowS} {l : List FD} (w : World) (hR : PK.rowR 28 6 FD.cells R l w) (hlen : l.length ≤ 100000) (hin : ∀ f ∈ l, inFD f) (hL : LD w) :
  Calls Tryz.prog 24 #[rowV R l.length] w fun e w' => ∃ x : FM8, e = .returned (Pt x.pf) ∧ FOK x (takeAll l) ∧ Mem w' (FO x (takeAll l)) [(w, fun _ => True)] := by
 refine enter (vs := [rowV R l.length]) Tryz.func24 rfl Tryz.ntmps24 rfl ?_
 refine Zs (Zr ?_)
 refine Xa ?_
 refine Ze (Zt (Zs (Zr ?_)))
 refine x_own (τ := FM8) (fun x => Pt x.pf) (fun x => FOK x [] ∧ x.now = none) (fun x => FO x []) rfl rfl rfl Tryz.func16 Zk rfl (fun w1 hw1 => (k_New w1).mono fun e w2 ⟨x, h1, h2, h3, h4⟩ => ⟨x, h1, h4.base (by simp), ⟨h2, h3⟩, hw1.join h4⟩) ?_
 rintro x0 ⟨hx0, hn0⟩
 refine Xa ?_
 refine Ze (Zt (Zs (Zs (Zr ?_))))
 refine Xa ?_
 refine Ze (Zt (w_block ?_))
 refine w_loop (σ := Nat × FM8) (fun z => z.1 ≤ l.length ∧ FOK z.2 (takeAll (l.take z.1))) (fun z => [(0, rowV R l.length), (3, Pt z.2.pf), (4, Vi (z.1 : Nat))]) (fun z => FO z.2 (takeAll (l.take z.1)) ++ []) (fun z => [(w, fun _ => True)]) (fun z => l.length - z.1) ((0, x0)) (⟨Nat.zero_le _, hx0⟩) (l_start Zu (fun w1 h => h.to (by simp; rfl))) ?_
 rintro ⟨k, x⟩ ⟨hk, hx⟩
 refine w_state ([(0, rowV R l.length), (3, Pt x.pf), (4, Vi (k : Nat))]) (FO x (takeAll (l.take k)) ++ []) ([(w, fun _ => True)]) ?_
 dsimp only at hk hx
 refine Zs (Zs (Zr ?_))
 refine Xm ?_
 refine Xm ?_
 refine Xv (v := Vi (l.length : Nat)) rfl (v_len_slice u24 rfl) ?_
 refine Xb rfl (v_lss rfl rfl) fun b9 hb9 => ?_
 refine Ze (Zt ?_)
 refine w_cond rfl (fun hc9 => ?_) fun hc9 => ?_
 ·simp only [hb9, Qz, ne_eq] at hc9
  have hkl : k < l.length := by omega
  obtain ⟨gF, csF, cpF, hRg, hcpF, hclF⟩ := hR.cells (c := FD.cells) (m := 6) (fun _ => rfl) (by decide) hkl
  refine w_skip (Zt (Zs (w_block (Zr ?_))))
  refine Xm ?_
  refine Xm ?_
  refine Xm ?_
  refine Xv rfl (v_indexAddr u24 sz28 (congrArg (fun R => some (rowV R l.length)) hRg) rfl (hkl) rfl) ?_
  refine Xv rfl (v_loadN (vs := l[k].cells) u28 rfl sz28 rfl (fun i hi => at_ro (.head _) trivial (by rw [Nat.zero_add]; exact (hclF i hi).trans (List.getElem?_eq_getElem hi)))) ?_
  refine x_turn (τ := FM8) (fst := #[]) (cap := #[]) (v := Vi (takeF (takeAll (l.take k)) l[k]).1) (fun x' => FOK x' (takeF (takeAll (l.take k)) l[k]).2 ∧ x'.pf = (x).pf) (fun x' => FO x' (takeF (takeAll (l.take k)) l[k]).2 ++ []) rfl rfl rfl Tryz.func17 Zk rfl (fun w1 hw1 => by
   simp only [Array.empty_append, Array.append_empty]
   exact k_Take (L := []) hx (hin _ (List.getElem_mem hkl)) (.head _) hL (hw1.to (by simp))) ?_
  rintro x9 ⟨hx9, hp9⟩
  refine Ze (b_norm (Zt (Zr ?_)))
  refine Xm ?_
  refine Xv rfl (v_addi rfl rfl rfl Zo) ?_
  refine Xa ?_
  refine Ze ?_
  exact l_norm (k + 1, x9) ⟨hkl, by dsimp only; rw [List.take_succ_eq_append_getElem hkl, takeAll_snoc]; exact hx9⟩ (by simp only; omega) (by dsimp only; rw [hp9]; repeat (first | exact Sub.nil | refine Sub.cons rfl ?_)) (fun w1 h => h.to (by dsimp only; rw [List.take_succ_eq_append_getElem hkl, takeAll_snoc]))
 simp only [hb9, Qz, ne_eq] at hc9
 obtain rfl : k = l.length := by omega
 rw [List.take_of_length_le (Nat.le_refl _)] at hx
 refine w_exit ?_
 refine t_exit ?_
 refine t_exit ?_
 refine b_hit ?_
 refine Zt (Zs (Zr ?_))
 refine Xm ?_
 refine Xa ?_
 refine Ze (Zt (w_ret ?_))
 exact ret1 rfl rfl (fun w' hm => ⟨x, rfl, hx, by rw [List.take_of_length_le (Nat.le_refl _), List.append_nil] at hm; exact hm⟩)
open Go.RowKit Go.PK
theorem least_step {p : HG → Bool} {hs : List HR} {k : Nat} (hk : k < hs.length) : leastB p (gsR (hs.take (k + 1))) = if p hs[k].g = true ∧ (leastB p (gsR (hs.take k)) = 0 ∨ hs[k].g.id < leastB p (gsR (hs.take k))) then hs[k].g.id else leastB p (gsR (hs.take k)) := by
 rw [List.take_succ_eq_append_getElem hk]
 unfold gsR
 rw [List.map_append, List.map_singleton, leastB_snoc]
def othA (o id : Int) (b : Bool) : Int := if b = true ∧ (o = 0 ∨ id < o) then id else o
theorem othA_yes {o id : Int} {l : List ByteArray} {t s : ByteArray} (hid : 1 ≤ id) (hs : s = t) (hc : othA o id (amg l t) = 0 ∨ id < othA o id (amg l t)) : id = othA o id (amg (l ++ [s]) t) := by
 have h1 : amg (l ++ [s]) t = true := by unfold amg; rw [List.any_append]; simp [hs]
 rw [h1]
 unfold othA at *
 by_cases hq : amg l t = true ∧ (o = 0 ∨ id < o)
 ·rw [if_pos ⟨rfl, hq.2⟩]
 rw [if_neg hq] at hc
 rw [if_pos ⟨rfl, hc⟩]
theorem othA_no {o id : Int} {l : List ByteArray} {t s : ByteArray} (hid : 1 ≤ id) (h : ¬(s = t ∧ (othA o id (amg l t) = 0 ∨ id < othA o id (amg l t)))) : othA o id (amg l t) = othA o id (amg (l ++ [s]) t) := by
 by_cases hs : s = t
 ·have hc : ¬(othA o id (amg l t) = 0 ∨ id < othA o id (amg l t)) := fun h1 => h ⟨hs, h1⟩
  have h1 : amg (l ++ [s]) t = true := by unfold amg; rw [List.any_append]; simp [hs]
  rw [h1]
  unfold othA at *
  by_cases hq : amg l t = true ∧ (o = 0 ∨ id < o)
  ·rw [if_pos hq, if_pos ⟨rfl, hq.2⟩]
  rw [if_neg hq] at hc ⊢
  rw [if_neg (fun h2 => hc h2.2)]
 have h1 : amg (l ++ [s]) t = amg l t := by unfold amg; rw [List.any_append]; simp [hs]
 rw [h1]
theorem foldS_ne {t : ByteArray} (h : ¬foldS t = ⟨#[]⟩) : ¬(foldS t).size = 0 := fun h0 => h (by
 have := ByteArray.ext_iff.2 (Array.eq_empty_of_size_eq_zero h0)
 exact this)
theorem least_nn {p : HG → Bool} {hs : List HG} (hp : ∀ h ∈ hs, 1 ≤ h.id) : 0 ≤ leastB p hs := by
 rcases leastB_is p hs hp with ⟨h, _⟩ | ⟨⟨h, h1, _, h2⟩, _⟩
 ·omega
 have := hp h h1; omega
theorem findF_pos {hs : List HG} {t : ByteArray} (h0 : ¬foldS t = ⟨#[]⟩) (h : leastB (namedB (foldS t)) hs > 0) : findF hs t = (leastB (namedB (foldS t)) hs, true) := by
 unfold findF findT
 rw [if_neg (foldS_ne h0), if_neg (by omega)]
 exact Prod.ext rfl (decide_eq_true (show leastB (namedB (foldS t)) hs ≠ 0 by omega))
theorem findF_neg {hs : List HG} {t : ByteArray} (hp : ∀ h ∈ hs, 1 ≤ h.id) (h0 : ¬foldS t = ⟨#[]⟩) (h : ¬leastB (namedB (foldS t)) hs > 0) : findF hs t = (leastB (alsoB (foldS t)) hs, decide (leastB (alsoB (foldS t)) hs > 0)) := by
 have h1 := least_nn (p := namedB (foldS t)) hp
 have h2 := least_nn (p := alsoB (foldS t)) hp
 unfold findF findT
 rw [if_neg (foldS_ne h0), if_pos (by omega)]
 exact Prod.ext rfl (decide_eq_decide.2 (by omega))
theorem findF_nil {hs : List HG} {t : ByteArray} (h0 : foldS t = ⟨#[]⟩) : findF hs t = (0, false) := by
 unfold findF
 rw [if_pos (by rw [h0]; rfl)]
set_option maxHeartbeats 1000000 in
theorem r_FindS {ps : Nat} {H : RowS} {hs : List HR} (w : World) (hR : RdR w ps H hs) (hlen : hs.length ≤ 100000) (hacy : Acy (gsR hs)) (hsz : ∀ x ∈ hs, szH 4000000 x.g) (hol : ∀ x ∈ hs, x.g.oth.length ≤ 100000) (t : ByteArray) (ht : t.size ≤ 4000000) :
  Calls Tryz.prog 97 #[Pt ps, .string t] w fun e w' => e = .returned (.tuple #[Vi (findF (gsR hs) t).1, .bool (findF (gsR hs) t).2]) ∧ Later w w' := by
 refine enter (vs := [Pt ps, .string t]) Tryz.func97 rfl Tryz.ntmps97 rfl ?_
 refine Zs (Zr ?_)
 refine Xa ?_
 refine Xa ?_
 refine Ze (Zt (Zs (Zr ?_)))
 refine Xm ?_
 refine x_callv rfl rfl rfl Tryz.func22 Zk rfl (fun w1 hw1 => r_Fold t w1 ht) ?_
 refine Xa ?_
 refine Ze (Zt (Zs (Zr ?_)))
 refine Xa ?_
 refine Ze (Zt (Zs (Zr ?_)))
 refine Xa ?_
 refine Ze (Zt (Zs (Zs (Zr ?_))))
 refine Xa ?_
 refine Ze (Zt (w_block ?_))
 refine w_loop (σ := Nat) (fun k => k ≤ hs.length ∧ (k = 0 ∨ ¬(foldS t) = ⟨#[]⟩)) (fun k => [(0, Pt ps), (6, Value.string (foldS t)), (7, Vi (leastB (namedB (foldS t)) (gsR (hs.take k)))), (8, Vi (leastB (alsoB (foldS t)) (gsR (hs.take k)))), (9, Vi (k : Nat))]) (fun k => []) (fun k => [(w, fun _ => True)]) (fun k => hs.length - k) (0) (⟨Nat.zero_le _, .inl rfl⟩) (l_start Zu (fun _ h => h)) ?_
 rintro k ⟨hk, hor⟩
 refine w_state ([(0, Pt ps), (6, Value.string (foldS t)), (7, Vi (leastB (namedB (foldS t)) (gsR (hs.take k)))), (8, Vi (leastB (alsoB (foldS t)) (gsR (hs.take k)))), (9, Vi (k : Nat))]) ([]) ([(w, fun _ => True)]) ?_
 refine Zs (Zs (Zr ?_))
 refine Xm ?_
 refine Xm ?_
 refine Xn ?_
 refine Xf 0 rfl u144 rfl sz142 ?_
 refine Xl rfl u142 rfl (at_ro (.head _) trivial hR.st) ?_
 refine Xv (v := Vi (hs.length : Nat)) rfl (v_len_slice u142 rfl) ?_
 refine Xb rfl (v_lss rfl rfl) fun b20 hb20 => ?_
 refine Xm ?_
 refine Xg ?_
 refine Xj rfl rfl rfl (fun hg0 => by subst hg0; (try simp only [Qy]); exact v_sneq rfl rfl) fun b23 hb23 => ?_
 refine Xb rfl (v_and rfl rfl) fun b24 hb24 => ?_
 refine Ze (Zt ?_)
 refine w_cond rfl (fun hc24 => ?_) fun hc24 => ?_
 ·simp only [hb24, hb23, hb20, Qz, ne_eq] at hc24
  have hkl : k < hs.length := by omega
  have hid := (hacy.pos hs[k].g (List.mem_map_of_mem (List.getElem_mem hkl))).1
  have hszk := hsz _ (List.getElem_mem hkl)
  have holk := hol _ (List.getElem_mem hkl)
  have hst := least_step (p := namedB (foldS t)) hkl
  have hsu := least_step (p := alsoB (foldS t)) hkl
  obtain ⟨g, cs, cp, hRg, hcp, hcl⟩ := hR.row.cells (c := hrC) (m := 5) (fun _ => rfl) (by decide) hkl
  refine w_skip (Zt (Zs (w_block (Zs (Zr ?_)))))
  refine Xm ?_
  refine Xn ?_
  refine Xf 0 rfl u144 rfl sz142 ?_
  refine Xl rfl u142 rfl (at_ro (.head _) trivial hR.st) ?_
  refine Xm ?_
  refine Xv rfl (v_indexAddr u142 sz148 (congrArg (fun R => some (rowV R hs.length)) hRg) rfl (hkl) rfl) ?_
  refine Xv rfl (v_loadN (vs := hrC hs[k]) u148 rfl sz148 rfl (fun i hi => at_ro (.head _) trivial (by rw [Nat.zero_add]; exact (hcl i hi).trans (List.getElem?_eq_getElem hi)))) ?_
  refine x_alloc rfl rfl rfl zr148 ?_
  intro p10
  refine x_store0 [] rfl rfl rfl rfl sz148 rfl rfl ?_
  refine Ze (Zt ?_)
  refine w_seq_cut (σ := Unit) (fun z9 => True) (fun z9 => [(0, Pt ps), (6, Value.string (foldS t)), (7, Vi (leastB (namedB (foldS t)) (gsR (hs.take (k + 1))))), (8, Vi (leastB (alsoB (foldS t)) (gsR (hs.take k)))), (9, Vi (k : Nat)), (10, Pt p10)]) (fun z9 => [(Bk p10 (hrC hs[k]) 148)]) (fun z9 => [(w, fun _ => True)]) ?_ ?_
  ·refine w_seq ?_
   refine Zr ?_
   refine Xf 1 rfl u148 rfl sz9 ?_
   refine Xv rfl (Vl u9 rfl) ?_
   refine x_callv rfl rfl rfl Tryz.func22 Zk rfl (fun w1 hw1 => r_Fold _ w1 hszk.1) ?_
   refine Xm ?_
   refine Xb rfl (v_seql rfl rfl) fun b38 hb38 => ?_
   refine Xm ?_
   refine Xg ?_
   refine Xj rfl rfl rfl (fun hg0 => by subst hg0; (try simp only [Qy]); exact v_eql rfl rfl) fun b41 hb41 => ?_
   refine Xg ?_
   refine x_if [(b38, true)] rfl rfl rfl rfl rfl (fun hg => by obtain ⟨hg0, hg1, _⟩ := hg; subst hg0; subst hg1; (try simp only [Qy]); exact v_fieldAddr (off' := 0) u148 rfl sz3 (by decide) rfl rfl) ?_
   refine x_if [(b38, true)] rfl rfl rfl rfl rfl (fun hg => by obtain ⟨hg0, hg1, _⟩ := hg; subst hg0; subst hg1; (try simp only [Qy]); exact Vl u3 rfl) ?_
   refine x_if [(b38, true)] rfl rfl rfl rfl rfl (fun hg => by obtain ⟨hg0, hg1, _⟩ := hg; subst hg0; subst hg1; (try simp only [Qy]); exact v_move rfl) ?_
   refine x_ifb [(b38, true)] rfl rfl rfl rfl rfl (fun hg => by obtain ⟨hg0, hg1, _⟩ := hg; subst hg0; subst hg1; (try simp only [Qy]); exact v_lss rfl rfl) fun b46 hb46 => ?_
   refine Xj rfl rfl rfl (fun hg0 => by subst hg0; (try simp only [Qy]); exact v_or rfl rfl) fun b47 hb47 => ?_
   refine Xb rfl (v_and rfl rfl) fun b48 hb48 => ?_
   refine Ze (Zt ?_)
   refine w_cond rfl (fun hc48 => ?_) fun hc48 => ?_
   ·simp only [hb48, hb47, hb46, hb41, hb38, Qz, ne_eq] at hc48
    have hnb : namedB (foldS t) hs[k].g = true := decide_eq_true hc48.1
    rw [if_pos ⟨hnb, hc48.2⟩] at hst
    refine Zr ?_
    refine Xf 0 rfl u148 rfl sz3 ?_
    refine Xv rfl (Vl u3 rfl) ?_
    refine Xa ?_
    refine Ze ?_
    exact c_norm () trivial (by rw [hst]; repeat (first | exact Sub.nil | refine Sub.cons rfl ?_)) (fun _ h => h)
   simp only [hb48, hb47, hb46, hb41, hb38, Qz, ne_eq] at hc48
   have hst2 : ¬(namedB (foldS t) hs[k].g = true ∧ ((leastB (namedB (foldS t)) (gsR (hs.take k))) = 0 ∨ hs[k].g.id < (leastB (namedB (foldS t)) (gsR (hs.take k))))) := fun h => by
    have h1 := of_decide_eq_true h.1
    rcases hc48 with h2 | h2
    ·exact h2 h1
    rcases h.2 with h3 | h3
    ·exact h2.1 h3
    exact h2.2 h3
   rw [if_neg hst2] at hst
   refine w_skip ?_
   exact c_norm () trivial (by rw [hst]; repeat (first | exact Sub.nil | refine Sub.cons rfl ?_)) (fun _ h => h)
  rintro _ _
  refine Zs (Zr ?_)
  refine Xa ?_
  refine Ze (Zt (w_block ?_))
  refine w_loop (σ := Nat) (fun j => j ≤ hs[k].g.oth.length) (fun j => [(0, Pt ps), (6, Value.string (foldS t)), (7, Vi (leastB (namedB (foldS t)) (gsR (hs.take (k + 1))))), (8, Vi (othA (leastB (alsoB (foldS t)) (gsR (hs.take k))) hs[k].g.id (amg ((hs[k].g.oth.map foldS).take j) (foldS t)))), (9, Vi (k : Nat)), (10, Pt p10), (11, Vi (j : Nat))]) (fun j => [(Bk p10 (hrC hs[k]) 148)]) (fun j => [(w, fun _ => True)]) (fun j => hs[k].g.oth.length - j) (0) (Nat.zero_le _) (l_start Zu (fun _ h => h)) ?_
  rintro j hj
  refine w_state ([(0, Pt ps), (6, Value.string (foldS t)), (7, Vi (leastB (namedB (foldS t)) (gsR (hs.take (k + 1))))), (8, Vi (othA (leastB (alsoB (foldS t)) (gsR (hs.take k))) hs[k].g.id (amg ((hs[k].g.oth.map foldS).take j) (foldS t)))), (9, Vi (k : Nat)), (10, Pt p10), (11, Vi (j : Nat))]) ([(Bk p10 (hrC hs[k]) 148)]) ([(w, fun _ => True)]) ?_
  refine Zs (Zs (Zr ?_))
  refine Xm ?_
  refine Xf 2 rfl u148 rfl sz38 ?_
  refine Xv rfl (Vl u38 rfl) ?_
  refine Xv (v := Vi (hs[k].g.oth.length : Nat)) rfl (v_len_slice u38 rfl) ?_
  refine Xb rfl (v_lss rfl rfl) fun b55 hb55 => ?_
  refine Ze (Zt ?_)
  refine w_cond rfl (fun hc55 => ?_) fun hc55 => ?_
  ·simp only [hb55, Qz, ne_eq] at hc55
   have hjl : j < hs[k].g.oth.length := by omega
   obtain ⟨g2, cs2, cp2, hO2, hcp2, hcl2⟩ := row_at (c := fun s : ByteArray => [Value.string s]) (m := 1) (fun _ => rfl) (by decide) (by rw [flat1]; exact (hR.ok _ (List.getElem_mem hkl)).1) hjl
   have hcell2 : w.cell? ⟨g2, j, none⟩ = some (.string hs[k].g.oth[j]) := by
    have hg := hR.rows _ (List.getElem_mem hkl) (g2, .cells cs2.toArray 9 (0, 0)) (List.mem_append_left _ (by rw [hO2]; exact .head _))
    rw [cell_of_row w g2 _ _ 9 (0, 0) hg, List.getElem?_toArray]; have := hcl2 0 (by decide); rw [Nat.mul_one, Nat.add_zero] at this; exact this
   refine w_skip (Zt ?_)
   refine w_seq_cut (σ := Unit) (fun z9 => True) (fun z9 => [(0, Pt ps), (6, Value.string (foldS t)), (7, Vi (leastB (namedB (foldS t)) (gsR (hs.take (k + 1))))), (8, Vi (othA (leastB (alsoB (foldS t)) (gsR (hs.take k))) hs[k].g.id (amg ((hs[k].g.oth.map foldS).take (j + 1)) (foldS t)))), (9, Vi (k : Nat)), (10, Pt p10), (11, Vi (j : Nat))]) (fun z9 => [(Bk p10 (hrC hs[k]) 148)]) (fun z9 => [(w, fun _ => True)]) ?_ ?_
   ·refine w_block ?_
    refine Zs (Zr ?_)
    refine Xf 2 rfl u148 rfl sz38 ?_
    refine Xv rfl (Vl u38 rfl) ?_
    refine Xm ?_
    refine Xv rfl (v_indexAddr u38 sz9 (congrArg (fun R => some (rowV R hs[k].g.oth.length)) hO2) rfl (hjl) rfl) ?_
    refine Xl rfl u9 rfl (at_ro (.head _) trivial (v := Value.string hs[k].g.oth[j]) (by rw [Nat.zero_add, Nat.mul_one]; exact hcell2)) ?_
    refine x_callv rfl rfl rfl Tryz.func22 Zk rfl (fun w1 hw1 => r_Fold _ w1 (hszk.2 _ (List.getElem_mem hjl))) ?_
    refine Xm ?_
    refine Xb rfl (v_seql rfl rfl) fun b65 hb65 => ?_
    refine Xm ?_
    refine Xg ?_
    refine Xj rfl rfl rfl (fun hg0 => by subst hg0; (try simp only [Qy]); exact v_eql rfl rfl) fun b68 hb68 => ?_
    refine Xg ?_
    refine x_if [(b65, true)] rfl rfl rfl rfl rfl (fun hg => by obtain ⟨hg0, hg1, _⟩ := hg; subst hg0; subst hg1; (try simp only [Qy]); exact v_fieldAddr (off' := 0) u148 rfl sz3 (by decide) rfl rfl) ?_
    refine x_if [(b65, true)] rfl rfl rfl rfl rfl (fun hg => by obtain ⟨hg0, hg1, _⟩ := hg; subst hg0; subst hg1; (try simp only [Qy]); exact Vl u3 rfl) ?_
    refine x_if [(b65, true)] rfl rfl rfl rfl rfl (fun hg => by obtain ⟨hg0, hg1, _⟩ := hg; subst hg0; subst hg1; (try simp only [Qy]); exact v_move rfl) ?_
    refine x_ifb [(b65, true)] rfl rfl rfl rfl rfl (fun hg => by obtain ⟨hg0, hg1, _⟩ := hg; subst hg0; subst hg1; (try simp only [Qy]); exact v_lss rfl rfl) fun b73 hb73 => ?_
    refine Xj rfl rfl rfl (fun hg0 => by subst hg0; (try simp only [Qy]); exact v_or rfl rfl) fun b74 hb74 => ?_
    refine Xb rfl (v_and rfl rfl) fun b75 hb75 => ?_
    refine Ze (Zt ?_)
    refine w_cond rfl (fun hc75 => ?_) fun hc75 => ?_
    ·simp only [hb75, hb74, hb73, hb68, hb65, Qz, ne_eq] at hc75
     have hno := othA_yes (o := (leastB (alsoB (foldS t)) (gsR (hs.take k)))) (l := (hs[k].g.oth.map foldS).take j) hid hc75.1 hc75.2
     refine Zr ?_
     refine Xf 0 rfl u148 rfl sz3 ?_
     refine Xv rfl (Vl u3 rfl) ?_
     refine Xa ?_
     refine Ze (b_norm ?_)
     exact c_norm () trivial (by rw [show (hs[k].g.oth.map foldS).take (j + 1) = (hs[k].g.oth.map foldS).take j ++ [foldS hs[k].g.oth[j]] from by rw [List.take_succ_eq_append_getElem (by rw [List.length_map]; exact hjl), List.getElem_map]]; rw [← hno]; repeat (first | exact Sub.nil | refine Sub.cons rfl ?_)) (fun _ h => h)
    simp only [hb75, hb74, hb73, hb68, hb65, Qz, ne_eq] at hc75
    have hno := othA_no (o := (leastB (alsoB (foldS t)) (gsR (hs.take k)))) (l := (hs[k].g.oth.map foldS).take j) (t := (foldS t)) (s := foldS hs[k].g.oth[j]) hid (fun h => by
     rcases hc75 with h2 | h2
     ·exact h2 h.1
     rcases h.2 with h3 | h3
     ·exact h2.1 h3
     exact h2.2 h3)
    refine w_skip (b_norm ?_)
    exact c_norm () trivial (by rw [show (hs[k].g.oth.map foldS).take (j + 1) = (hs[k].g.oth.map foldS).take j ++ [foldS hs[k].g.oth[j]] from by rw [List.take_succ_eq_append_getElem (by rw [List.length_map]; exact hjl), List.getElem_map]]; rw [← hno]; repeat (first | exact Sub.nil | refine Sub.cons rfl ?_)) (fun _ h => h)
   rintro _ _
   refine Zr ?_
   refine Xm ?_
   refine Xv rfl (v_addi rfl rfl rfl Zo) ?_
   refine Xa ?_
   refine Ze ?_
   exact l_norm (j + 1) hjl (by omega) Zu (fun _ h => h)
  simp only [hb55, Qz, ne_eq] at hc55
  obtain rfl : j = hs[k].g.oth.length := by omega
  rw [show (hs[k].g.oth.map foldS).take hs[k].g.oth.length = hs[k].g.oth.map foldS from List.take_of_length_le (by rw [List.length_map]; exact Nat.le_refl _)]
  have hal : othA (leastB (alsoB (foldS t)) (gsR (hs.take k))) hs[k].g.id (amg (hs[k].g.oth.map foldS) (foldS t)) = (leastB (alsoB (foldS t)) (gsR (hs.take (k + 1)))) := hsu.symm
  rw [hal]
  refine w_exit ?_
  refine t_exit ?_
  refine t_exit ?_
  refine b_hit ?_
  refine b_norm (Zt (Zr ?_))
  refine Xm ?_
  refine Xv rfl (v_addi rfl rfl rfl Zo) ?_
  refine Xa ?_
  refine Ze ?_
  exact l_norm (k + 1) ⟨hkl, .inr hc24.2⟩ (by omega) Zu (fun _ h => h.less (List.nil_sublist _) (fun _ h => h))
 simp only [hb24, hb23, hb20, Qz, ne_eq] at hc24
 have hfin : findF (gsR hs) t = if (leastB (namedB (foldS t)) (gsR (hs.take k))) > 0 then ((leastB (namedB (foldS t)) (gsR (hs.take k))), true) else ((leastB (alsoB (foldS t)) (gsR (hs.take k))), decide ((leastB (alsoB (foldS t)) (gsR (hs.take k))) > 0)) := by
  have hp : ∀ h ∈ gsR hs, 1 ≤ h.id := fun h hh => (hacy.pos h hh).1
  by_cases h0 : (foldS t) = ⟨#[]⟩
  ·obtain rfl : k = 0 := hor.resolve_right (fun h => h h0)
   rw [findF_nil h0]; rfl
  obtain rfl : k = hs.length := by rcases hc24 with h | h; (· omega); exact absurd h h0
  rw [List.take_of_length_le (Nat.le_refl _)]
  by_cases h1 : leastB (namedB (foldS t)) (gsR hs) > 0
  ·rw [if_pos h1, findF_pos h0 h1]
  rw [if_neg h1, findF_neg hp h0 h1]
 refine w_exit ?_
 refine t_exit ?_
 refine t_exit ?_
 refine b_hit ?_
 refine Zt (Zs (Zs (Zr ?_)))
 refine Xm ?_
 refine Xb rfl (v_gtr rfl rfl) fun b79 hb79 => ?_
 refine Ze (Zt ?_)
 refine w_cond rfl (fun hc79 => ?_) fun hc79 => ?_
 ·simp only [hb79, Qz, ne_eq] at hc79
  rw [if_pos hc79] at hfin
  refine Zs (Zr ?_)
  refine Xm ?_
  refine Xa ?_
  refine Xa ?_
  refine Ze (Zt (w_ret (t_ret ?_)))
  rw [hfin]
  exact ret2 rfl rfl rfl (fun w' hm => ⟨rfl, hm.base (by simp)⟩)

 simp only [hb79, Qz, ne_eq] at hc79
 rw [if_neg hc79] at hfin
 refine w_skip (Zt (Zs (Zr ?_)))
 refine Xm ?_
 refine Xm ?_
 refine Xb rfl (v_gtr rfl rfl) fun b83 hb83 => ?_
 refine Xa ?_
 refine Xa ?_
 refine Ze (Zt (w_ret ?_))
 rw [hfin]
 exact ret2 rfl rfl rfl (fun w' hm => ⟨by rw [hb83], hm.base (by simp)⟩)

open Go.RowKit Go.PK
set_option maxHeartbeats 1000000 in
theorem r_ResolveS {ps : Nat} {H : RowS} {hs : List HR} (w : World) (hR : RdR w ps H hs) (hlen : hs.length ≤ 100000) (hacy : Acy (gsR hs)) (hsl : ∀ x ∈ hs, x.g.spl.length ≤ 100000) (h : Int) (t : ByteArray) (ht : t.size ≤ 4000000) :
  Calls Tryz.prog 67 #[Pt ps, Vi h, .string t] w fun e w' => e = .returned (.tuple #[Vi (resolveF (gsR hs) (wordsP t) h).1, .bool (resolveF (gsR hs) (wordsP t) h).2]) ∧ Later w w' := by
 refine enter (vs := [Pt ps, Vi h, .string t]) Tryz.func67 rfl Tryz.ntmps67 rfl ?_
 refine Zs (Zr ?_)
 refine Xa ?_
 refine Xa ?_
 refine Ze (Zt (Zs (Zs (Zr ?_))))
 refine Xm ?_
 refine Xm ?_
 refine x_callv rfl rfl rfl Tryz.func96 Zk rfl (fun w1 hw1 => r_find w1 (hR.later (hw1.base (by simp))) hlen h) ?_
 refine Xb rfl (v_lss rfl rfl) fun b16 hb16 => ?_
 refine Ze (Zt ?_)
 refine w_cond rfl (fun hc16 => ?_) fun hc16 => ?_
 ·simp only [hb16, Qz, ne_eq] at hc16
  have hno := (fdR_lk hs h).2.1 hc16
  have hfn : resolveF (gsR hs) (wordsP t) h = (0, false) := by unfold resolveF; rw [hno]
  rw [hfn]
  refine Zs (Zr ?_)
  refine Xa ?_
  refine Xa ?_
  refine Ze (Zt (w_ret (t_ret ?_)))
  exact ret2 rfl rfl rfl (fun w' hm => ⟨rfl, hm.base (by simp)⟩)
 simp only [hb16, Qz, ne_eq] at hc16
 obtain ⟨g9, hg9⟩ := Option.isSome_iff_exists.1 ((fdR_lk hs h).2.2.1 (Int.not_lt.1 hc16))
 obtain ⟨n0, hn0⟩ := hacy.res (wordsP t) hg9
 have hfn : resolveF (gsR hs) (wordsP t) h = (resF (gsR hs) (wordsP t) h, true) := by unfold resolveF; rw [hg9]
 rw [hfn]
 refine w_skip (Zt (Zs (Zr ?_)))
 refine Xm ?_
 refine x_own (τ := RowS) (fun r => rowV r (wordsP t).length) (fun r => rowOK 1 r (wordsP t).length ((wordsP t).map Value.string)) (fun r => rowO 9 r) rfl rfl rfl Tryz.func21 Zk rfl (fun w1 hw1 => (r_Words t w1 ht).mono fun e w2 ⟨r, h1, h2, h3⟩ => ⟨r, h1, h3.base (by simp), h2, hw1.join h3⟩) fun r hrw => ?_
 refine Xa ?_
 refine Ze (Zt (w_block ?_))
 refine w_loop (σ := Nat × Int) (fun q => EndsN (gsR hs) (wordsP t) q.1 q.2 (resF (gsR hs) (wordsP t) h)) (fun q => [(0, Pt ps), (1, Vi q.2), (8, rowV r (wordsP t).length)]) (fun q => rowO 9 r) (fun q => [(w, fun _ => True)]) (fun q => q.1) ((n0, h)) (hn0) (l_start Zu (fun _ h => h)) ?_
 rintro ⟨n, cur⟩ hE
 refine w_state ([(0, Pt ps), (1, Vi cur), (8, rowV r (wordsP t).length)]) (rowO 9 r) ([(w, fun _ => True)]) ?_
 dsimp only at hE
 obtain ⟨g0, hg0⟩ := hE.look
 obtain ⟨i, hi, hf⟩ := fidx_lt ((fdR_lk hs cur).2.2.2 (by rw [hg0]; rfl))
 have hf : fdR hs cur = (i : Nat) := hf
 have hlk := (fdR_lk hs cur).1 i hi hf
 have hpz := hacy.pos hs[i].g (List.mem_map_of_mem (List.getElem_mem hi))
 have hsli := hsl _ (List.getElem_mem hi)
 obtain ⟨g, cs, cp, hRg, hcp, hcl⟩ := hR.row.cells (c := hrC) (m := 5) (fun _ => rfl) (by decide) hi
 refine w_block (Zs ?_)
 refine rg_draw 10 [(true, 0), (true, 1), (true, 2), (true, 3), (true, 4), (true, 5), (true, 6), (true, 7), (true, 8), (false, 9)] Zk Zk ?_
 refine Xm ?_
 refine Xn ?_
 refine Xf 0 rfl u144 rfl sz142 ?_
 refine Xl rfl u142 rfl (at_ro (.head _) trivial hR.st) ?_
 refine Xm ?_
 refine Xm ?_
 refine x_callv (v := Vi ((i : Nat) : Int)) rfl rfl rfl Tryz.func96 Zk rfl (fun w1 hw1 => by rw [← hf]; exact r_find w1 (hR.later (hw1.base (by simp))) hlen cur) ?_
 refine Xv rfl (v_indexAddr u142 sz148 (congrArg (fun R => some (rowV R hs.length)) hRg) rfl (hi) rfl) ?_
 refine Xv rfl (v_loadN (vs := hrC hs[i]) u148 rfl sz148 rfl (fun i9 hi9 => at_ro (.head _) trivial (by rw [Nat.zero_add]; exact (hcl i9 hi9).trans (List.getElem?_eq_getElem hi9)))) ?_
 refine x_alloc rfl rfl rfl zr148 ?_
 intro p9
 refine x_store0 [] rfl rfl rfl rfl sz148 rfl rfl ?_
 refine Ze (Zt (Zs (Zr ?_)))
 refine Xf 4 rfl u148 rfl sz3 ?_
 refine Xv rfl (Vl u3 rfl) ?_
 refine Xa ?_
 refine Ze (Zt (Zs (Zs (Zr ?_))))
 refine Xa ?_
 refine Ze (Zt (w_block ?_))
 refine w_loop (σ := Nat × Int) (fun z => z.1 ≤ hs[i].g.spl.length ∧ 0 ≤ z.2 ∧ (z.2 = 0 → hs[i].g.into = 0 ∧ ∀ m (hm : m < hs[i].g.spl.length), m < z.1 → amg (wordsP t) hs[i].g.spl[m].1 = false) ∧ (z.2 ≠ 0 → stepR (wordsP t) hs[i].g = z.2)) (fun z => [(0, Pt ps), (1, Vi cur), (8, rowV r (wordsP t).length), (9, Pt p9), (10, Vi z.2), (11, Vi (z.1 : Nat))]) (fun z => (Bk p9 (hrC hs[i]) 148) :: rowO 9 r) (fun z => [(w, fun _ => True)]) (fun z => hs[i].g.spl.length - z.1) ((0, hs[i].g.into)) (⟨Nat.zero_le _, hpz.2.1, fun h0 => ⟨h0, fun m hm hm0 => absurd hm0 (Nat.not_lt_zero _)⟩, fun h0 => by have h1 := hpz.2.1; unfold stepR; dsimp only at h0 ⊢; rw [if_pos (by omega)]⟩) (l_start Zu (fun _ h => h)) ?_
 rintro ⟨j, nx⟩ ⟨hj, hnx, hz0, hz1⟩
 refine w_state ([(0, Pt ps), (1, Vi cur), (8, rowV r (wordsP t).length), (9, Pt p9), (10, Vi nx), (11, Vi (j : Nat))]) ((Bk p9 (hrC hs[i]) 148) :: rowO 9 r) ([(w, fun _ => True)]) ?_
 dsimp only at hj hnx hz0 hz1
 refine Zs (Zs (Zr ?_))
 refine Xm ?_
 refine Xf 3 rfl u148 rfl sz146 ?_
 refine Xv rfl (Vl u146 rfl) ?_
 refine Xv (v := Vi (hs[i].g.spl.length : Nat)) rfl (v_len_slice u146 rfl) ?_
 refine Xb rfl (v_lss rfl rfl) fun b34 hb34 => ?_
 refine Xm ?_
 refine Xg ?_
 refine Xj rfl rfl rfl (fun hg0 => by subst hg0; (try simp only [Qy]); exact v_eql rfl rfl) fun b37 hb37 => ?_
 refine Xb rfl (v_and rfl rfl) fun b38 hb38 => ?_
 refine Ze (Zt ?_)
 refine w_cond rfl (fun hc38 => ?_) fun hc38 => ?_
 ·simp only [hb38, hb37, hb34, Qz, ne_eq] at hc38
  have hjl : j < hs[i].g.spl.length := by omega
  obtain ⟨g2, cs2, cp2, hS2, hcp2, hcl2⟩ := row_at (c := splC) (m := 2) (fun _ => rfl) (by decide) (hR.ok _ (List.getElem_mem hi)).2 hjl
  have hcell2 : ∀ q v, (splC hs[i].g.spl[j])[q]? = some v → w.cell? ⟨g2, j * 2 + q, none⟩ = some v := fun q v hv => by
   have hg := hR.rows _ (List.getElem_mem hi) (g2, .cells cs2.toArray 150 (0, 0)) (List.mem_append_right _ (by rw [hS2]; exact .head _))
   rw [cell_of_row w g2 _ _ 150 (0, 0) hg, List.getElem?_toArray, hcl2 q (List.getElem?_eq_some_iff.1 hv).1]; exact hv
  refine w_skip (Zt (Zs (w_block (Zs (Zr ?_)))))
  refine Xm ?_
  refine Xf 3 rfl u148 rfl sz146 ?_
  refine Xv rfl (Vl u146 rfl) ?_
  refine Xm ?_
  refine Xv rfl (v_indexAddr u146 sz150 (congrArg (fun R => some (rowV R hs[i].g.spl.length)) hS2) rfl (hjl) rfl) ?_
  refine Xf _ rfl u150 rfl sz9 ?_
  refine Xl rfl u9 rfl (at_ro (.head _) trivial (v := Value.string hs[i].g.spl[j].1) (by show w.cell? ⟨g2, 0 + j * 2 + 0, none⟩ = _; rw [Nat.zero_add]; exact hcell2 0 _ rfl)) ?_
  refine x_callb rfl rfl rfl Tryz.func66 Zk rfl (fun w1 hw1 => r_among w1 (hw1.rowR (by rw [flat1]; exact hrw) (fun q hq => .tail _ hq)) (by have := wordsP_len t; omega)) fun b48 hb48 => ?_
  refine Xa ?_
  refine Ze (Zt (Zs (Zr ?_)))
  refine Xm ?_
  refine Ze (Zt ?_)
  refine w_cond rfl (fun hc49 => ?_) fun hc49 => ?_
  ·simp only [hb48, Qz, ne_eq] at hc49
   have hy : amg (wordsP t) hs[i].g.spl[j].1 = true := hc49
   refine Zr ?_
   refine Xf 3 rfl u148 rfl sz146 ?_
   refine Xv rfl (Vl u146 rfl) ?_
   refine Xm ?_
   refine Xv rfl (v_indexAddr u146 sz150 (congrArg (fun R => some (rowV R hs[i].g.spl.length)) hS2) rfl (hjl) rfl) ?_
   refine Xf _ rfl u150 rfl sz3 ?_
   refine Xl rfl u3 rfl (at_ro (.head _) trivial (v := Vi hs[i].g.spl[j].2) (by show w.cell? ⟨g2, 0 + j * 2 + 1, none⟩ = _; rw [Nat.zero_add]; exact hcell2 1 _ rfl)) ?_
   refine Xa ?_
   refine Ze (b_norm (Zt (Zr ?_)))
   refine Xm ?_
   refine Xv rfl (v_addi rfl rfl rfl Zo) ?_
   refine Xa ?_
   refine Ze ?_
   have hp1 := hpz.2.2 _ (List.getElem_mem hjl)
   obtain ⟨hi0, hall⟩ := hz0 hc38.2
   exact l_norm (j + 1, hs[i].g.spl[j].2) ⟨hjl, by dsimp only; omega, fun h0 => by dsimp only at h0; omega, fun _ => by
    have e1 : fidx (fun q : ByteArray × Int => amg (wordsP t) q.1) hs[i].g.spl = (j : Nat) := fidx_at hjl hy (fun m hm hmj => hall m hm hmj)
    unfold stepR
    rw [if_neg (by omega)]
    exact spl_yes hjl e1⟩ (by simp only; omega) Zu (fun _ h => h)
  simp only [hb48, Qz, ne_eq] at hc49
  have hy : amg (wordsP t) hs[i].g.spl[j].1 = false := hc49
  refine w_skip (b_norm (Zt (Zr ?_)))
  refine Xm ?_
  refine Xv rfl (v_addi rfl rfl rfl Zo) ?_
  refine Xa ?_
  refine Ze ?_
  obtain ⟨hi0, hall⟩ := hz0 hc38.2
  exact l_norm (j + 1, nx) ⟨hjl, hnx, fun h0 => ⟨hi0, fun m hm hmj => by dsimp only at hmj; rcases Nat.lt_succ_iff_lt_or_eq.1 hmj with h2 | rfl; (· exact hall m hm h2); exact hy⟩, fun h0 => absurd hc38.2 h0⟩ (by simp only; omega) Zu (fun _ h => h)
 simp only [hb38, hb37, hb34, Qz, ne_eq] at hc38
 skip
 refine w_exit ?_
 refine t_exit ?_
 refine t_exit ?_
 refine b_hit ?_
 refine Zt (Zs (Zs (Zr ?_)))
 refine Xm ?_
 refine Xb rfl (v_eql rfl rfl) fun b57 hb57 => ?_
 refine Ze (Zt ?_)
 refine w_cond rfl (fun hc57 => ?_) fun hc57 => ?_
 ·simp only [hb57, Qz, ne_eq] at hc57
  have hst : stepR (wordsP t) hs[i].g = 0 := by
   obtain ⟨hi0, hall⟩ := hz0 hc57
   unfold stepR
   rw [if_neg (by omega)]
   have e1 : fidx (fun q : ByteArray × Int => amg (wordsP t) q.1) hs[i].g.spl = -1 := fidx_none (fun m hm => hall m hm (by rcases hc38 with h | h; (· omega); exact absurd hc57 h))
   exact spl_no (by rw [e1]; decide)
  have hfin := hE.fin hlk hst
  rw [hfin]
  refine Zs (Zr ?_)
  refine Xm ?_
  refine Xa ?_
  refine Xa ?_
  refine Ze (Zt (w_ret (t_ret (b_ret (t_ret (b_ret ?_))))))
  exact ret2 rfl rfl rfl (fun w' hm => ⟨rfl, hm.base (by simp)⟩)
 simp only [hb57, Qz, ne_eq] at hc57
 have hst := hz1 hc57
 obtain ⟨n2, rfl, hE2⟩ := hE.next hlk (by rw [hst]; exact hc57)
 rw [hst] at hE2
 refine w_skip (Zt (Zr ?_))
 refine Xm ?_
 refine Xa ?_
 refine Ze (b_norm ?_)
 exact l_norm (n2, nx) hE2 (Nat.lt_succ_self _) Zu (fun _ h => h.less (List.sublist_cons_self _ _) (fun _ h => h))
open Go.RowKit Go.PK
theorem q_at {n : Nat} {D : Nat → Prop} {w : World} {A : Option Addr} {cp : Nat} {qs : List (List Int)} (h : sliceRd (tyArr (tyK .i64) n) D w (.slice A qs.length cp) qs) {k : Nat} (hk : k < qs.length) : ∃ b o, A = some ⟨b, o, none⟩ ∧ D b ∧ qs[k].length = n ∧ (∀ x ∈ qs[k], in64 x) ∧ ∀ j (hj : j < (qs[k].map (Value.int .i64)).length), w.cell? ⟨b, o + k * n + j, none⟩ = some (qs[k].map (Value.int .i64))[j] := by
 obtain ⟨A', c', hv, h1, h2, h3⟩ := h
 injection hv with e1 e2 e3
 subst e1 e3
 obtain ⟨b, o, e, hD, _, hc⟩ := h3 (by omega)
 obtain ⟨cs, k1, k2⟩ := hc k hk
 obtain ⟨rfl, k3, k4⟩ := arr_k k2
 rw [tyArr_size, show n * (tyK IntKind.i64).size = n from Nat.mul_one n] at k1
 exact ⟨b, o, e, hD, k3, k4, fun j hj => k1 j hj⟩
theorem four {l : List Int} (h : l.length = 4) : ∃ q0 q1 q2 q3, l = [q0, q1, q2, q3] := by
 match l, h with
 | [q0, q1, q2, q3], _ => exact ⟨q0, q1, q2, q3, rfl⟩
theorem fd_in {x : FD} (h : smF x) : inFD x := by
 have h1 := h.size
 obtain ⟨a1, a2, a3, a4, a5, a6, a7, a8, a9, a10, a11⟩ := h
 unfold inFD in64
 omega
set_option maxHeartbeats 2000000 in
theorem r_Feeds {A0 : Option Addr} {c0 : Nat} {qs : List (List Int)} (w : World) (hq : sliceRd (tyArr (tyK .i64) 4) (fun _ => True) w (.slice A0 qs.length c0) qs) :
  Calls Tryz.prog 23 #[.slice A0 qs.length c0] w fun e w' => ∃ R', e = .returned (rowV R' (feedsF qs).length) ∧ rowOK 6 R' (feedsF qs).length (fdsC (feedsF qs)) ∧ Mem w' (rowO 28 R') [(w, fun _ => True)] := by
 refine enter (vs := [.slice A0 qs.length c0]) Tryz.func23 rfl Tryz.ntmps23 rfl ?_
 refine Zs (Zr ?_)
 refine Xa ?_
 refine Ze (Zt (Zs (Zr ?_)))
 refine x_buildSliceL (cs := nameL.map Value.string) rfl rfl rfl u38 sz9 zr9 rfl rfl Zk ?_
 intro p9
 refine Xa ?_
 refine Ze (Zt (Zs (Zr ?_)))
 refine Xa ?_
 refine Ze (Zt (Zs (Zs (Zr ?_))))
 refine Xa ?_
 refine Ze (Zt (w_block ?_))
 refine w_loop (σ := Nat × RowS) (fun z => z.1 ≤ qs.length ∧ z.1 ≤ 60 ∧ rowOK 6 z.2 z.1 (fdsC ((feedsF qs).take z.1))) (fun z => [(0, Value.slice A0 qs.length c0), (3, Value.slice (some ⟨p9, 0, none⟩) 10 10), (4, rowV z.2 z.1), (5, Vi (z.1 : Nat))]) (fun z => (Bk p9 (nameL.map Value.string) 9) :: rowO 28 z.2) (fun z => [(w, fun _ => True)]) (fun z => qs.length - z.1) ((0, none)) (⟨Nat.zero_le _, Nat.zero_le _, rowOK_nil⟩) (l_start Zu (fun _ h => h)) ?_
 rintro ⟨k, R⟩ ⟨hk, hk6, hR⟩
 refine w_state ([(0, Value.slice A0 qs.length c0), (3, Value.slice (some ⟨p9, 0, none⟩) 10 10), (4, rowV R k), (5, Vi (k : Nat))]) ((Bk p9 (nameL.map Value.string) 9) :: rowO 28 R) ([(w, fun _ => True)]) ?_
 dsimp only at hk hk6 hR
 refine Zs (Zs (Zr ?_))
 refine Xm ?_
 refine Xm ?_
 refine Xv (v := Vi (qs.length : Nat)) rfl (v_len_slice u42 rfl) ?_
 refine Xb rfl (v_lss rfl rfl) fun b13 hb13 => ?_
 refine Xm ?_
 refine Xg ?_
 refine Xj rfl rfl rfl (fun hg0 => by subst hg0; (try simp only [Qy]); exact v_lss rfl rfl) fun b16 hb16 => ?_
 refine Xb rfl (v_and rfl rfl) fun b17 hb17 => ?_
 refine Ze (Zt ?_)
 refine w_cond rfl (fun hc17 => ?_) fun hc17 => ?_
 ·simp only [hb17, hb16, hb13, Qz, ne_eq] at hc17
  have hkl : k < qs.length := by omega
  have hk60 : k < 60 := by omega
  obtain ⟨b0, o0, hA0, _, hl4, hin4, hcq⟩ := q_at hq hkl
  obtain ⟨q0, q1, q2, q3, hqe⟩ := four hl4
  have hfq : feedQ k qs[k] = feedC k q0 q1 q2 q3 := by rw [hqe]; rfl
  rw [hqe] at hcq hin4
  have hq4 : in64 q0 ∧ in64 q1 ∧ in64 q2 ∧ in64 q3 := by simpa using hin4
  have hb9 : (q0 % 9).toNat < 9 := by omega
  have hb10 : (q2 % 10).toNat < 10 := by omega
  have hb4 : (q2.tdiv 8 % 4).toNat < 4 := by omega
  refine w_skip (Zt (Zs (w_block (Zs (Zr ?_)))))
  refine Xm ?_
  refine Xm ?_
  refine Xv rfl (v_indexAddr u42 sz103 (congrArg (fun A => some (Value.slice A qs.length c0)) hA0) rfl (hkl) rfl) ?_
  refine Xv rfl (v_loadN (vs := [Vi q0, Vi q1, Vi q2, Vi q3]) u103 rfl sz103 rfl (fun i hi => at_ro (.head _) trivial (hcq i hi))) ?_
  refine x_alloc rfl rfl rfl zr103 ?_
  intro p6
  refine x_store0 [] rfl rfl rfl rfl sz103 rfl rfl ?_
  refine Ze (Zt (Zs (Zr ?_)))
  refine x_buildSliceL (cs := kindL.map (Value.int .i64)) rfl rfl rfl u25 sz3 zr3 rfl rfl Zk ?_
  intro p24
  refine Xa ?_
  refine Ze (Zt (Zs ?_))
  refine rg_draw 29 [(true, 0), (true, 1), (true, 2), (true, 3), (true, 4), (true, 5), (true, 6), (true, 7), (true, 8), (true, 9), (true, 10), (true, 11), (true, 12), (true, 13), (true, 14), (true, 15), (true, 16), (true, 17), (true, 18), (true, 19), (true, 20), (true, 21), (true, 22), (true, 23), (true, 24), (true, 25), (true, 26), (true, 27), (false, 28)] Zk Zk ?_
  refine Xv rfl (v_indexArr (j := 3) (off' := 3) u103 sz3 rfl rfl Zo rfl) ?_
  refine Xl rfl u3 rfl (at_ownL (vs := [Vi q0, Vi q1, Vi q2, Vi q3]) (v := Vi q3) (.tail _ (.head _)) rfl) ?_
  refine x_callv (v := Vi (q3 % 3)) rfl rfl rfl Tryz.func54 Zk rfl (fun w1 hw1 => r_mod (q3) 3 w1 hq4.2.2.2 (by omega)) ?_
  refine Xv rfl (v_addi (c := (1 + q3 % 3)) rfl rfl (by omega) (by omega)) ?_
  refine Xm ?_
  refine Xv rfl (v_addi (c := (1 + (k : Int))) rfl rfl (by omega) (by omega)) ?_
  refine Xv rfl (v_indexArr (j := 3) (off' := 3) u103 sz3 rfl rfl Zo rfl) ?_
  refine Xl rfl u3 rfl (at_ownL (vs := [Vi q0, Vi q1, Vi q2, Vi q3]) (v := Vi q3) (.tail _ (.head _)) rfl) ?_
  refine Xv rfl (v_quoi (c := q3.tdiv 3) rfl rfl (by decide) rfl (tdiv_in hq4.2.2.2 (by decide))) ?_
  refine x_callv (v := Vi (q3.tdiv 3 % 4)) rfl rfl rfl Tryz.func54 Zk rfl (fun w1 hw1 => r_mod (q3.tdiv 3) 4 w1 (tdiv_in hq4.2.2.2 (by decide)) (by omega)) ?_
  refine Xv rfl (v_addi (c := (1 + (k : Int) + q3.tdiv 3 % 4)) rfl rfl (by omega) (by omega)) ?_
  refine Xm ?_
  refine Xv rfl (v_indexArr (j := 0) (off' := 0) u103 sz3 rfl rfl Zo rfl) ?_
  refine Xl rfl u3 rfl (at_ownL (vs := [Vi q0, Vi q1, Vi q2, Vi q3]) (v := Vi q0) (.tail _ (.head _)) rfl) ?_
  refine x_callv (v := Vi (((q0 % 9).toNat : Nat) : Int)) rfl rfl rfl Tryz.func54 Zk rfl (fun w1 hw1 => by rw [Int.toNat_of_nonneg (Int.emod_nonneg _ (by decide))]; exact r_mod (q0) 9 w1 hq4.1 (by omega)) ?_
  refine Xv rfl (v_indexAddr u25 sz3 rfl rfl (hb9) rfl) ?_
  refine Xl rfl u3 rfl (at_ownL (vs := kindL.map (Value.int .i64)) (v := Vi (kindL.getD (q0 % 9).toNat 0)) (.head _) (by rw [Nat.zero_add, Nat.mul_one, List.getElem?_map, List.getD_eq_getElem?_getD, List.getElem?_eq_getElem (show _ < kindL.length from hb9)]; rfl)) ?_
  refine Xv rfl (v_indexArr (j := 1) (off' := 1) u103 sz3 rfl rfl Zo rfl) ?_
  refine Xl rfl u3 rfl (at_ownL (vs := [Vi q0, Vi q1, Vi q2, Vi q3]) (v := Vi q1) (.tail _ (.head _)) rfl) ?_
  refine x_callv (v := Vi (q1 % 8)) rfl rfl rfl Tryz.func54 Zk rfl (fun w1 hw1 => r_mod (q1) 8 w1 hq4.2.1 (by omega)) ?_
  refine Xv rfl (v_addi (c := (1 + q1 % 8)) rfl rfl (by omega) (by omega)) ?_
  refine Xm ?_
  refine Xv rfl (v_indexArr (j := 2) (off' := 2) u103 sz3 rfl rfl Zo rfl) ?_
  refine Xl rfl u3 rfl (at_ownL (vs := [Vi q0, Vi q1, Vi q2, Vi q3]) (v := Vi q2) (.tail _ (.head _)) rfl) ?_
  refine x_callv (v := Vi (((q2 % 10).toNat : Nat) : Int)) rfl rfl rfl Tryz.func54 Zk rfl (fun w1 hw1 => by rw [Int.toNat_of_nonneg (Int.emod_nonneg _ (by decide))]; exact r_mod (q2) 10 w1 hq4.2.2.1 (by omega)) ?_
  refine Xv rfl (v_indexAddr u38 sz9 rfl rfl (hb10) rfl) ?_
  refine Xl rfl u9 rfl (at_ownL (vs := nameL.map Value.string) (v := Value.string (nameL.getD (q2 % 10).toNat ⟨#[]⟩)) (.tail _ (.tail _ (.head _))) (by rw [Nat.zero_add, Nat.mul_one, List.getElem?_map, List.getD_eq_getElem?_getD, List.getElem?_eq_getElem (show _ < nameL.length from hb10)]; rfl)) ?_
  refine Xv (v := Value.agg (feed0 k q0 q1 q2 q3).cells.toArray) rfl (v_buildL (cs := (feed0 k q0 q1 q2 q3).cells) (places := [(0, 1), (1, 1), (2, 1), (3, 1), (4, 1), (5, 1)]) u28 zr28 Zk rfl rfl) ?_
  refine x_alloc rfl rfl rfl zr28 ?_
  intro p8
  refine x_store0 [] rfl rfl rfl rfl sz28 rfl rfl ?_
  refine Ze (Zt ?_)
  refine w_seq_cut (σ := Unit) (fun z9 => True) (fun z9 => [(0, Value.slice A0 qs.length c0), (3, Value.slice (some ⟨p9, 0, none⟩) 10 10), (4, rowV R k), (5, Vi (k : Nat)), (6, Pt p6), (7, Value.slice (some ⟨p24, 0, none⟩) 9 9), (8, Pt p8)]) (fun z9 => (p8, Obj.cells (feedA k q0 q1 q2 q3).cells.toArray 28) :: (Bk p24 (kindL.map (Value.int .i64)) 3) :: (Bk p6 [Vi q0, Vi q1, Vi q2, Vi q3] 103) :: (Bk p9 (nameL.map Value.string) 9) :: rowO 28 R) (fun z9 => [(w, fun _ => True)]) ?_ ?_
  ·refine w_seq ?_
   refine Zr ?_
   refine Xf 2 rfl u28 rfl sz3 ?_
   refine Xl rfl u3 rfl (at_ownL (vs := (feed0 k q0 q1 q2 q3).cells) (.head _) rfl) ?_
   refine Xb rfl (v_eql rfl rfl) fun b55 hb55 => ?_
   refine Xm ?_
   refine Xi rfl rfl rfl (fun hg0 => by subst hg0; (try simp only [Qy]); exact v_fieldAddr (off' := 2) u28 rfl sz3 (by decide) rfl rfl) ?_
   refine Xi rfl rfl rfl (fun hg0 => by subst hg0; (try simp only [Qy]); exact v_load u3 rfl rfl (at_ownL (vs := (feed0 k q0 q1 q2 q3).cells) (.head _) rfl)) ?_
   refine Xj rfl rfl rfl (fun hg0 => by subst hg0; (try simp only [Qy]); exact v_eql rfl rfl) fun b59 hb59 => ?_
   refine Xb rfl (v_or rfl rfl) fun b60 hb60 => ?_
   refine Ze (Zt ?_)
   refine w_cond rfl (fun hc60 => ?_) fun hc60 => ?_
   ·simp only [hb60, hb59, hb55, Qz, ne_eq] at hc60
    refine Zs (Zr ?_)
    refine Xv rfl (v_indexArr (j := 2) (off' := 2) u103 sz3 rfl rfl Zo rfl) ?_
    refine Xl rfl u3 rfl (at_ownL (vs := [Vi q0, Vi q1, Vi q2, Vi q3]) (v := Vi q2) (.tail _ (.tail _ (.head _))) rfl) ?_
    refine x_callv (v := Vi (q2 % 8)) rfl rfl rfl Tryz.func54 Zk rfl (fun w1 hw1 => r_mod (q2) 8 w1 hq4.2.2.1 (by omega)) ?_
    refine Xv rfl (v_addi (c := (1 + q2 % 8)) rfl rfl (by omega) (by omega)) ?_
    refine Xf 4 rfl u28 rfl sz3 ?_
    refine x_store [] rfl rfl rfl rfl sz3 rfl (by show 4 + 1 ≤ 6; decide) ?_
    refine Ze (Zt (Zr ?_))
    refine Xf 5 rfl u28 rfl sz9 ?_
    refine x_store [] rfl rfl rfl rfl sz9 rfl (by show 5 + 1 ≤ 6; decide) ?_
    refine Ze ?_
    exact c_norm () trivial Zu (fun w1 h => h.to (by unfold feedA; rw [if_pos hc60]; rfl))
   simp only [hb60, hb59, hb55, Qz, ne_eq] at hc60
   refine w_skip ?_
   exact c_norm () trivial Zu (fun w1 h => h.to (by unfold feedA; rw [if_neg (fun h9 => h9.elim hc60.1 hc60.2)]; rfl))
  rintro _ _
  refine w_seq_cut (σ := Unit) (fun z9 => True) (fun z9 => [(0, Value.slice A0 qs.length c0), (3, Value.slice (some ⟨p9, 0, none⟩) 10 10), (4, rowV R k), (5, Vi (k : Nat)), (6, Pt p6), (7, Value.slice (some ⟨p24, 0, none⟩) 9 9), (8, Pt p8)]) (fun z9 => (p8, Obj.cells (feedC k q0 q1 q2 q3).cells.toArray 28) :: (Bk p24 (kindL.map (Value.int .i64)) 3) :: (Bk p6 [Vi q0, Vi q1, Vi q2, Vi q3] 103) :: (Bk p9 (nameL.map Value.string) 9) :: rowO 28 R) (fun z9 => [(w, fun _ => True)]) ?_ ?_
  ·refine w_seq ?_
   refine Zr ?_
   refine Xf 2 rfl u28 rfl sz3 ?_
   refine Xl rfl u3 rfl (at_ownL (vs := (feedA k q0 q1 q2 q3).cells) (.head _) rfl) ?_
   refine Xb rfl (v_eql rfl rfl) fun b69 hb69 => ?_
   refine Ze (Zt ?_)
   refine w_cond rfl (fun hc69 => ?_) fun hc69 => ?_
   ·simp only [hb69, Qz, ne_eq] at hc69
    refine Zr ?_
    refine x_buildSliceL (cs := splL.map Value.string) rfl rfl rfl u38 sz9 zr9 rfl rfl Zk ?_
    intro p70
    refine Xv rfl (v_indexArr (j := 2) (off' := 2) u103 sz3 rfl rfl Zo rfl) ?_
    refine Xl rfl u3 rfl (at_ownL (vs := [Vi q0, Vi q1, Vi q2, Vi q3]) (v := Vi q2) (.tail _ (.tail _ (.tail _ (.head _)))) rfl) ?_
    refine Xv rfl (v_quoi (c := q2.tdiv 8) rfl rfl (by decide) rfl (tdiv_in hq4.2.2.1 (by decide))) ?_
    refine x_callv (v := Vi (((q2.tdiv 8 % 4).toNat : Nat) : Int)) rfl rfl rfl Tryz.func54 Zk rfl (fun w1 hw1 => by rw [Int.toNat_of_nonneg (Int.emod_nonneg _ (by decide))]; exact r_mod (q2.tdiv 8) 4 w1 (tdiv_in hq4.2.2.1 (by decide)) (by omega)) ?_
    refine Xv rfl (v_indexAddr u38 sz9 rfl rfl (hb4) rfl) ?_
    refine Xl rfl u9 rfl (at_ownL (vs := splL.map Value.string) (v := Value.string (splL.getD (q2.tdiv 8 % 4).toNat ⟨#[]⟩)) (.head _) (by rw [Nat.zero_add, Nat.mul_one, List.getElem?_map, List.getD_eq_getElem?_getD, List.getElem?_eq_getElem (show _ < splL.length from hb4)]; rfl)) ?_
    refine Xf 5 rfl u28 rfl sz9 ?_
    refine x_store [(p70, _)] rfl rfl rfl rfl sz9 rfl (by show 5 + 1 ≤ 6; decide) ?_
    refine Ze ?_
    exact c_norm () trivial Zu (fun w1 h => (h.less (List.sublist_cons_self _ _) (fun _ h => h)).to (by unfold feedC; rw [if_pos hc69]; rfl))
   simp only [hb69, Qz, ne_eq] at hc69
   refine w_skip ?_
   exact c_norm () trivial Zu (fun w1 h => h.to (by unfold feedC; rw [if_neg hc69]))
  rintro _ _
  refine Zr ?_
  refine Xm ?_
  refine Xv rfl (v_load_blk u28 rfl rfl (.head _) (by exact sz28)) ?_
  refine x_buildSliceL (cs := (feedC k q0 q1 q2 q3).cells) rfl rfl rfl u24 sz28 zr28 rfl rfl rfl ?_
  intro p80
  refine x_append (e := 28) [(p80, Obj.cells (feedC k q0 q1 q2 q3).cells.toArray 28 (0, 0)), (p8, Obj.cells (feedC k q0 q1 q2 q3).cells.toArray 28), (Bk p24 (kindL.map (Value.int .i64)) 3), (Bk p6 [Vi q0, Vi q1, Vi q2, Vi q3] 103), (Bk p9 (nameL.map Value.string) 9)] (l2 := []) R (len := k) (xs := fdsC ((feedsF qs).take k)) rfl rfl rfl rfl (by simp) hR u24 ap28 rfl rfl (m := 1) (news := (feedC k q0 q1 q2 q3).cells) (fun i hi => at_ownL (vs := (feedC k q0 q1 q2 q3).cells) (.head _) (by rw [Nat.zero_add]; exact List.getElem?_eq_getElem hi)) rfl Zx (by omega) fun R' hR' => ?_
  refine Xa ?_
  refine Ze (b_norm (Zt (Zr ?_)))
  refine Xm ?_
  refine Xv rfl (v_addi rfl rfl rfl Zo) ?_
  refine Xa ?_
  refine Ze ?_
  exact l_norm (k + 1, R') ⟨hkl, hk60, by dsimp only; rw [feedsF_take hkl hk60, hfq, fdsC_app]; exact (by simpa [fdsC] using hR')⟩ (by simp only; omega) Zu (fun w1 h => (h.less ((((List.sublist_cons_self _ _).trans (List.sublist_cons_self _ _)).trans (List.sublist_cons_self _ _)).trans (List.sublist_cons_self _ _)) (fun _ h => h)).to (by simp))
 simp only [hb17, hb16, hb13, Qz, ne_eq] at hc17
 have hke : (feedsF qs).length = k := by rw [feedsF_len]; omega
 refine w_exit ?_
 refine t_exit ?_
 refine t_exit ?_
 refine b_hit ?_
 refine Zt (Zs (Zr ?_))
 refine Xm ?_
 refine Xa ?_
 refine Ze (Zt (w_ret ?_))
 exact ret1 rfl rfl (fun w' hm => ⟨R, by rw [hke], by rw [List.take_of_length_le (by omega)] at hR; rw [hke]; exact hR, hm.less (List.sublist_cons_self _ _) (fun _ h => h)⟩)
open Go.RowKit Go.PK
end Go.Proofs.YtnflcekodobdlaaGreatDoor
