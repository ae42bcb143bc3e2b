/- Of the proofs of YtnflcekodobdlaaGreatDoor: Gf, put together. -/
import Derived.Test.YtnflcekodobdlaaGreatDoorT8
import Derived.Test.YtnflcekodobdlaaGreatDoorT3
import Derived.Test.YtnflcekodobdlaaGreatDoorT1
import Derived.Test.YtnflcekodobdlaaGreatDoorT2
import Derived.Test.YtnflcekodobdlaaGreatDoorT4
import Derived.Test.YtnflcekodobdlaaGreatDoorT5
import Derived.Test.YtnflcekodobdlaaGreatDoorT6
import Derived.Test.YtnflcekodobdlaaGreatDoorT7
set_option linter.unusedVariables false
set_option linter.unusedSimpArgs false
set_option maxRecDepth 100000

namespace Go.Proofs.YtnflcekodobdlaaGreatDoor
open Go.RowKit Go.PK
attribute [local irreducible] WX
set_option maxHeartbeats 4000000 in
theorem lawCircles {A0 : Option Addr} {c0 : Nat} {qs : List (List Int)} (w : World) (hq : sliceRd (tyArr (tyK .i64) 4) (fun _ => True) w (.slice A0 qs.length c0) qs) (hL : LD w) :
  Calls Tryz.prog 7 #[.slice A0 qs.length c0] w fun e w' => e = .returned (.bool (true)) ∧ Later w w' := by
 have hF := feedsF_len qs
 have hP0 : CirP (takeAll (feedsF qs)) (takeAll (feedsF qs)) (1000 + 10 * 1) (60 + 5 * 1) (stF (takeAll (feedsF qs))).ref.length := ⟨rfl, rfl, fun f hf => by have h9 := feedsF_sm f (takeAll_sub _ f hf); obtain ⟨_, _, _, j4, _⟩ := h9; omega, by have h9 := nd_len _ _ (srt_nodup (takeAll_ok (feedsF qs)).srt) (takeAll_sub (feedsF qs)); omega, (takeAll_ok (feedsF qs)).rt⟩
 have hrl : (stF (takeAll (feedsF qs))).ref.length ≤ 100000 := by have h9 := (fs_bnd' (takeAll_ok (feedsF qs))).ref; omega
 refine enter (vs := [.slice A0 qs.length c0]) Tryz.func7 rfl Tryz.ntmps7 rfl ?_
 refine Zs (Zr ?_)
 refine Xa ?_
 refine Ze (Zt (Zs (Zr ?_)))
 refine x_callb rfl rfl rfl Tryz.func14 Zk rfl (fun w1 hw1 => c_sanity w1 (hL.later (hw1.base (by simp)))) fun b14 hb14 => ?_
 obtain rfl : b14 = true := hb14
 refine Xa ?_
 refine Ze (Zt (Zs (Zr ?_)))
 refine Xm ?_
 refine x_own (τ := RowS) (fun R => rowV R (feedsF qs).length) (fun R => rowOK 6 R (feedsF qs).length (fdsC (feedsF qs))) (fun R => rowO 28 R) rfl rfl rfl Tryz.func23 Zk rfl (fun w1 hw1 => (r_Feeds w1 (hq.keep (Kept.later (hw1.base (by simp))))).mono fun e w2 ⟨R, h1, h2, h3⟩ => ⟨R, h1, h3.base (by simp), h2, hw1.join h3⟩) fun R hR => ?_
 refine x_own (τ := FM8) (fun x => Pt x.pf) (fun x => FOK x (takeAll (feedsF qs))) (fun x => FO x (takeAll (feedsF qs))) rfl rfl rfl Tryz.func24 Zk rfl (fun w1 hw1 => (c_taken w1 (hw1.rowR hR (fun q hq => hq)) (by have h9 := feedsF_len qs; omega) (fun f hf => fd_in (feedsF_sm f hf)) (hL.later (hw1.base (by simp)))).mono fun e w2 ⟨x, h1, h2, h3⟩ => ⟨x, h1, h3.base (by simp), h2, hw1.join h3⟩) fun x0 hx0 => ?_
 have px0 : x0.pf = x0.pf := rfl
 refine x_mem (own' := FO x0 (takeAll (feedsF qs)) ++ []) (fun _ h => h.to (by rw [List.append_nil])) ?_
 refine Xa ?_
 refine Ze (Zt (Zs (Zr ?_)))
 refine Xm ?_
 refine x_turnV (τ := RowS × FM8) (fst := #[]) (cap := #[]) (fun z => rowV z.1 (stF (takeAll (feedsF qs))).ref.length) (fun z => rowOK 6 z.1 (stF (takeAll (feedsF qs))).ref.length (fdsC (stF (takeAll (feedsF qs))).ref) ∧ FOK z.2 (takeAll (feedsF qs)) ∧ z.2.pf = x0.pf) (fun z => FO z.2 (takeAll (feedsF qs)) ++ (rowO 28 z.1 ++ [])) rfl rfl rfl Tryz.func20 Zk rfl (fun w1 hw1 => by
  simp only [Array.empty_append, Array.append_empty]
  have h := k_Refused (L := []) hx0 (.head _) hL hw1
  rw [px0] at h
  exact h.mono fun e w2 ⟨R, h1, h2, y, ⟨h3, h4⟩, h5⟩ => ⟨(R, y), h1, ⟨h2, h3, h4⟩, h5⟩) ?_
 rintro ⟨R0, x5⟩ ⟨hR0, hx5, px5⟩
 refine Xv (v := Vi ((stF (takeAll (feedsF qs))).ref.length : Nat)) rfl (v_len_slice u24 rfl) ?_
 refine Xa ?_
 refine Ze (Zt (Zs (Zs (Zr ?_))))
 refine Xa ?_
 refine Ze (Zt (w_block ?_))
 refine w_loop (σ := Nat × FM8 × List FD × Nat) (fun z => 1 ≤ z.1 ∧ z.1 ≤ 9 ∧ FOK z.2.1 z.2.2.1 ∧ z.2.1.pf = x0.pf ∧ CirP (takeAll (feedsF qs)) z.2.2.1 (1000 + 10 * z.1) (60 + 5 * z.1) z.2.2.2 ∧ z.2.2.2 ≤ 100000 + 5 * z.1) (fun z => [(3, Value.bool true), (4, Pt x0.pf), (5, Vi (z.2.2.2 : Nat)), (6, Vi (z.1 : Nat))]) (fun z => FO z.2.1 z.2.2.1 ++ []) (fun z => [(w, fun _ => True)]) (fun z => 9 - z.1) ((1, x5, (takeAll (feedsF qs)), (stF (takeAll (feedsF qs))).ref.length)) (⟨Nat.le_refl _, by show 1 ≤ 9; decide, hx5, px5, hP0, by show (stF (takeAll (feedsF qs))).ref.length ≤ 100000 + 5 * 1; omega⟩) (l_start Zu (fun w1 h => h.less ((List.Sublist.refl _).append (List.nil_sublist _)) (fun _ h => h))) ?_
 rintro ⟨h, x, gs, r⟩ ⟨h1, h9, hx, px, hP, hrb⟩
 refine w_state ([(3, Value.bool true), (4, Pt x0.pf), (5, Vi (r : Nat)), (6, Vi (h : Nat))]) (FO x gs ++ []) ([(w, fun _ => True)]) ?_
 dsimp only at h1 h9 hx px hP hrb
 refine Zs (Zs (Zr ?_))
 refine Xm ?_
 refine Xb rfl (v_lss rfl rfl) fun b22 hb22 => ?_
 refine Ze (Zt ?_)
 refine w_cond rfl (fun hc22 => ?_) fun hc22 => ?_
 ·simp only [hb22, Qz, ne_eq] at hc22
  have hh8 : h ≤ 8 := by omega
  refine w_skip (Zt (Zs (w_block (Zs (Zr ?_)))))
  refine Xa ?_
  refine Ze (Zt (w_block ?_))
  refine w_loop (σ := Nat × FM8 × List FD × Nat) (fun z => z.1 ≤ 5 ∧ FOK z.2.1 z.2.2.1 ∧ z.2.1.pf = x0.pf ∧ CirP (takeAll (feedsF qs)) z.2.2.1 (1000 + 10 * h + z.1) (60 + 5 * h + z.1) z.2.2.2 ∧ z.2.2.2 ≤ 100000 + 5 * h + z.1) (fun z => [(3, Value.bool true), (4, Pt x0.pf), (5, Vi (z.2.2.2 : Nat)), (6, Vi (h : Nat)), (7, Vi (z.1 : Nat))]) (fun z => FO z.2.1 z.2.2.1 ++ []) (fun z => [(w, fun _ => True)]) (fun z => 5 - z.1) ((0, x, gs, r)) (⟨Nat.zero_le _, hx, px, hP, hrb⟩) (l_start Zu (fun _ h => h)) ?_
  rintro ⟨t, y, gs2, r2⟩ ⟨ht, hy, py, hP2, hrb2⟩
  refine w_state ([(3, Value.bool true), (4, Pt x0.pf), (5, Vi (r2 : Nat)), (6, Vi (h : Nat)), (7, Vi (t : Nat))]) (FO y gs2 ++ []) ([(w, fun _ => True)]) ?_
  dsimp only at ht hy py hP2 hrb2
  refine Zs (Zs (Zr ?_))
  refine Xm ?_
  refine Xb rfl (v_lss rfl rfl) fun b26 hb26 => ?_
  refine Ze (Zt ?_)
  refine w_cond rfl (fun hc26 => ?_) fun hc26 => ?_
  ·simp only [hb26, Qz, ne_eq] at hc26
   have ht4 : t < 5 := by omega
   have hA1 : in64 (resolveF (stF gs2).hs (wordsP (titN (t : Nat))) (h : Nat)).1 := by
    unfold resolveF
    cases hl : lkH (stF gs2).hs (h : Nat) with
    | none => unfold in64; dsimp only; omega
    | some g =>
     obtain ⟨n9, hn9⟩ := (stF_acy8 hP2.rt).res (wordsP (titN (t : Nat))) hl
     obtain ⟨g2, hl2, _⟩ := hn9.last
     obtain ⟨m3, m4⟩ := lkH_mem hl2
     dsimp only
     rw [← m4]
     exact idsP_of (p := in64) (fun f hf => (hy.sz f hf).2.2.2.1) g2 m3
   refine w_skip (Zt (Zs (w_block (Zs (Zr ?_)))))
   refine Xm ?_
   refine Xm ?_
   refine Xm ?_
   refine x_callv rfl rfl rfl Tryz.func30 Zk rfl (fun w1 hw1 => r_Title _ w1 (by unfold in64; omega)) ?_
   refine x_turn (τ := FM8) (fst := #[]) (cap := #[]) (v := .tuple #[Vi (resolveF (stF gs2).hs (wordsP (titN (t : Nat))) (h : Nat)).1, .bool (resolveF (stF gs2).hs (wordsP (titN (t : Nat))) (h : Nat)).2]) (fun y => FOK y (gs2) ∧ y.pf = x0.pf) (fun y => FO y (gs2) ++ []) rfl rfl rfl Tryz.func18 Zk rfl (fun w1 hw1 => by
    simp only [Array.empty_append, Array.append_empty]
    have h := k_Resolve (h := (h : Nat)) (t := (titN (t : Nat))) (L := []) hy (by unfold in64; omega) (Nat.le_trans (titN_sz _) (by omega)) (.head _) hL hw1
    rw [py] at h
    exact h) ?_
   rintro ya ⟨hya, pya⟩
   refine Xm ?_
   refine Xe ?_
   refine Xb rfl (v_extract rfl rfl) fun b36 hb36 => ?_
   refine Xa ?_
   refine Xa ?_
   refine Ze (Zt (Zs (Zr ?_)))
   refine Xm ?_
   refine Xm ?_
   refine Xm ?_
   refine x_callv rfl rfl rfl Tryz.func30 Zk rfl (fun w1 hw1 => r_Title _ w1 (by unfold in64; omega)) ?_
   refine x_turn (τ := FM8) (fst := #[]) (cap := #[]) (v := .tuple #[Vi (resolveF (stF gs2).hs (wordsP (titN (t : Nat))) (resolveF (stF gs2).hs (wordsP (titN (t : Nat))) (h : Nat)).1).1, .bool (resolveF (stF gs2).hs (wordsP (titN (t : Nat))) (resolveF (stF gs2).hs (wordsP (titN (t : Nat))) (h : Nat)).1).2]) (fun y => FOK y (gs2) ∧ y.pf = x0.pf) (fun y => FO y (gs2) ++ []) rfl rfl rfl Tryz.func18 Zk rfl (fun w1 hw1 => by
    simp only [Array.empty_append, Array.append_empty]
    have h := k_Resolve (h := (resolveF (stF gs2).hs (wordsP (titN (t : Nat))) (h : Nat)).1) (t := (titN (t : Nat))) (L := []) hya hA1 (Nat.le_trans (titN_sz _) (by omega)) (.head _) hL hw1
    rw [pya] at h
    exact h) ?_
   rintro yb ⟨hyb, pyb⟩
   refine Xm ?_
   refine Xe ?_
   refine Xb rfl (v_extract rfl rfl) fun b44 hb44 => ?_
   refine Xa ?_
   refine Xa ?_
   refine Ze (Zt (Zs (Zr ?_)))
   refine Xm ?_
   refine Xm ?_
   refine x_turn (τ := FM8) (fst := #[]) (cap := #[]) (v := .tuple #[.string (nameF (stF gs2).hs (h : Nat)).1, .bool (nameF (stF gs2).hs (h : Nat)).2]) (fun y => FOK y (gs2) ∧ y.pf = x0.pf) (fun y => FO y (gs2) ++ []) rfl rfl rfl Tryz.func31 Zk rfl (fun w1 hw1 => by
    simp only [Array.empty_append, Array.append_empty]
    have h := k_Name (h := (h : Nat)) (L := []) hyb (by unfold in64; omega) (.head _) hL hw1
    rw [pyb] at h
    exact h) ?_
   rintro yc ⟨hyc, pyc⟩
   refine Xm ?_
   refine Xe ?_
   refine Xb rfl (v_extract rfl rfl) fun b50 hb50 => ?_
   refine Xa ?_
   refine Xa ?_
   refine Ze (Zt (Zs (Zs (Zr ?_))))
   refine Xm ?_
   refine Xm ?_
   refine Xb rfl (v_bneq rfl rfl u4) fun b53 hb53 => ?_
   obtain rfl : b53 = false := (by rw [hb53, hb36, hb50, res_name]; simp)
   refine Xm ?_
   refine x_valg rfl rfl rfl rfl rfl (v_move rfl) ?_
   refine x_valg rfl rfl rfl rfl rfl (v_move rfl) ?_
   refine Xg ?_
   refine Xj rfl rfl rfl (fun hg0 => by subst hg0; (try simp only [Qy]); exact v_not rfl) fun b58 hb58 => ?_
   refine Xg ?_
   refine x_if [(b36, true)] rfl rfl rfl rfl rfl (fun hg => by obtain ⟨hg0, hg1, _⟩ := hg; subst hg0; subst hg1; (try simp only [Qy]); exact v_move rfl) ?_
   refine x_if [(b36, true)] rfl rfl rfl rfl rfl (fun hg => by obtain ⟨hg0, hg1, _⟩ := hg; subst hg0; subst hg1; (try simp only [Qy]); exact v_move rfl) ?_
   refine x_ifb [(b36, true)] rfl rfl rfl rfl rfl (fun hg => by obtain ⟨hg0, hg1, _⟩ := hg; subst hg0; subst hg1; (try simp only [Qy]); exact v_neq rfl rfl) fun b62 hb62 => ?_
   refine Xj rfl rfl rfl (fun hg0 => by subst hg0; (try simp only [Qy]); exact v_or rfl rfl) fun b63 hb63 => ?_
   refine x_boolg rfl rfl rfl rfl rfl (v_and rfl rfl) fun b64 hb64 => ?_
   refine Xb rfl (v_or rfl rfl) fun b65 hb65 => ?_
   refine Ze (Zt ?_)
   refine w_cond rfl (fun hc65 => ?_) fun hc65 => ?_
   ·exfalso
    have hyes := fun q => res_yes (stF_acy8 hP2.rt) (ws := wordsP (titN (t : Nat))) (h := (h : Nat)) q
    simp only [hb65, hb64, hb63, hb62, hb58, hb36, hb44, Qz, ne_eq] at hc65
    rcases hc65 with q0 | ⟨q1, q2⟩; (· cases q0)
    obtain ⟨g, _, e1, e2⟩ := hyes q1
    rw [e1] at q2
    rw [e2] at q2
    simp at q2
   skip
   refine w_skip (Zt (Zs (Zr ?_)))
   refine Xm ?_
   refine Xm ?_
   refine Xg ?_
   refine Xg ?_
   refine Xj rfl rfl rfl (fun hg0 => by subst hg0; (try simp only [Qy]); exact v_neq rfl rfl) fun b70 hb70 => ?_
   refine Xb rfl (v_and rfl rfl) fun b71 hb71 => ?_
   refine Ze (Zt ?_)
   refine w_cond rfl (fun hc71 => ?_) fun hc71 => ?_
   ·simp only [hb71, hb70, hb36, Qz, ne_eq] at hc71
    obtain ⟨hst, hP3⟩ := hP2.step (by omega) (by omega) (ws := wordsP (titN (t : Nat))) (h := (h : Nat)) hc71.1 (x := (⟨9, ((1000 + 10 * h + t : Nat) : Int), 4, (resolveF (stF gs2).hs (wordsP (titN (t : Nat))) (h : Nat)).1, (h : Nat), ⟨#[]⟩⟩ : FD)) rfl
    refine Zs (Zr ?_)
    refine Xm ?_
    refine Xm ?_
    refine Xv rfl (v_muli rfl rfl rfl Zo) ?_
    refine Xv rfl (v_addi rfl rfl rfl Zo) ?_
    refine Xm ?_
    refine Xv rfl (v_addi rfl rfl rfl Zo) ?_
    refine Xm ?_
    refine Xm ?_
    refine Xv (v := Value.agg ((⟨9, ((1000 + 10 * h + t : Nat) : Int), 4, (resolveF (stF gs2).hs (wordsP (titN (t : Nat))) (h : Nat)).1, (h : Nat), ⟨#[]⟩⟩ : FD)).cells.toArray) rfl (v_buildL (cs := ((⟨9, ((1000 + 10 * h + t : Nat) : Int), 4, (resolveF (stF gs2).hs (wordsP (titN (t : Nat))) (h : Nat)).1, (h : Nat), ⟨#[]⟩⟩ : FD)).cells) (places := [(0, 1), (1, 1), (2, 1), (3, 1), (4, 1), (5, 1)]) u28 zr28 Zk rfl rfl) ?_
    refine x_turn (τ := FM8) (fst := #[]) (cap := #[]) (v := Vi 0) (fun y => FOK y (gs2 ++ [(⟨9, ((1000 + 10 * h + t : Nat) : Int), 4, (resolveF (stF gs2).hs (wordsP (titN (t : Nat))) (h : Nat)).1, (h : Nat), ⟨#[]⟩⟩ : FD)]) ∧ y.pf = x0.pf) (fun y => FO y (gs2 ++ [(⟨9, ((1000 + 10 * h + t : Nat) : Int), 4, (resolveF (stF gs2).hs (wordsP (titN (t : Nat))) (h : Nat)).1, (h : Nat), ⟨#[]⟩⟩ : FD)]) ++ []) rfl rfl rfl Tryz.func17 Zk rfl (fun w1 hw1 => by
     simp only [Array.empty_append, Array.append_empty]
     have h := k_Take (f := (⟨9, ((1000 + 10 * h + t : Nat) : Int), 4, (resolveF (stF gs2).hs (wordsP (titN (t : Nat))) (h : Nat)).1, (h : Nat), ⟨#[]⟩⟩ : FD)) (L := []) hyc ⟨by unfold in64; dsimp only; omega, by unfold in64; dsimp only; omega, by unfold in64; dsimp only; omega, hA1, by unfold in64; dsimp only; omega, Nat.zero_le _⟩ (.head _) hL hw1
     rw [hst, pyc] at h
     exact h) ?_
    rintro yd ⟨hyd, pyd⟩
    refine Ze (Zt (Zr ?_))
    refine Xm ?_
    refine Xv rfl (v_addi rfl rfl rfl Zo) ?_
    refine Xa ?_
    refine Ze (b_norm (Zt (Zr ?_)))
    refine Xm ?_
    refine Xv rfl (v_addi rfl rfl rfl Zo) ?_
    refine Xa ?_
    refine Ze ?_
    exact l_norm (t + 1, yd, _, r2 + 1) ⟨ht4, hyd, pyd, hP3, by dsimp only; omega⟩ (by simp only; omega) Zu (fun _ h => h)
   skip
   refine w_skip (b_norm (Zt (Zr ?_)))
   refine Xm ?_
   refine Xv rfl (v_addi rfl rfl rfl Zo) ?_
   refine Xa ?_
   refine Ze ?_
   exact l_norm (t + 1, yc, gs2, r2) ⟨ht4, hyc, pyc, hP2.more (by dsimp only; omega) (by dsimp only; omega), by dsimp only; omega⟩ (by simp only; omega) Zu (fun _ h => h)
  skip
  refine w_exit ?_
  refine t_exit ?_
  refine t_exit ?_
  refine b_hit ?_
  refine b_norm (Zt (Zr ?_))
  refine Xm ?_
  refine Xv rfl (v_addi rfl rfl rfl Zo) ?_
  refine Xa ?_
  refine Ze ?_
  exact l_norm (h + 1, y, gs2, r2) ⟨by dsimp only; omega, by dsimp only; omega, hy, py, hP2.more (by dsimp only; omega) (by dsimp only; omega), by dsimp only; omega⟩ (by simp only; omega) Zu (fun _ h => h)
 skip
 refine w_exit ?_
 refine t_exit ?_
 refine t_exit ?_
 refine b_hit ?_
 refine Zt (Zs (Zr ?_))
 refine Xm ?_
 refine Xm ?_
 refine x_valg rfl rfl rfl rfl rfl (v_move rfl) ?_
 refine x_turnVg (τ := RowS × FM8) (fun z => rowV z.1 (stF gs).ref.length) (fun z => rowOK 6 z.1 (stF gs).ref.length (fdsC (stF gs).ref) ∧ FOK z.2 gs ∧ z.2.pf = x0.pf) (fun z => FO z.2 gs ++ (rowO 28 z.1 ++ [])) rfl rfl rfl rfl Tryz.func20 Zk rfl (fun w1 hw1 => by
  have h := k_Refused (L := []) hx (.head _) hL hw1
  rw [px] at h
  exact h.mono fun e w2 ⟨R, h1, h2, y, ⟨h3, h4⟩, h5⟩ => ⟨(R, y), h1, ⟨h2, h3, h4⟩, h5⟩) ?_
 rintro ⟨R9, x9⟩ ⟨hR9, hx9, px9⟩
 refine x_valg (v := Vi ((stF gs).ref.length : Nat)) rfl rfl rfl rfl rfl (v_len_slice u24 rfl) ?_
 refine x_valg rfl rfl rfl rfl rfl (v_move rfl) ?_
 refine x_boolg rfl rfl rfl rfl rfl (v_eql rfl rfl) fun b90 hb90 => ?_
 obtain rfl : b90 = true := hb90.trans (decide_eq_true (by rw [hP.ref]))
 refine Xb rfl (v_and rfl rfl) fun b91 hb91 => ?_
 obtain rfl : b91 = true := hb91
 refine Xa ?_
 refine Ze (Zt (w_ret ?_))
 exact ret1 rfl rfl (fun w' hm => ⟨rfl, hm.base (by simp)⟩)
end Go.Proofs.YtnflcekodobdlaaGreatDoor
