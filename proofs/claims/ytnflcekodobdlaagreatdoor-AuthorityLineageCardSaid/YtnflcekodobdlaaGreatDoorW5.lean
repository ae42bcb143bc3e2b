/- Of the proofs of YtnflcekodobdlaaGreatDoor: Ac Ad Ae Af Ba Bb Bc Bd Be Bf Bg, put together. -/
import Derived.Test.YtnflcekodobdlaaGreatDoorW4
import Derived.Test.YtnflcekodobdlaaGreatDoorW2
import Derived.Test.YtnflcekodobdlaaGreatDoorShelfV
import Derived.Lib.SmallJoins
import Derived.RangeFuncBound
import Derived.Test.YtnflcekodobdlaaGreatDoorW1
import Derived.Test.YtnflcekodobdlaaGreatDoorW3
set_option linter.unusedVariables false
set_option linter.unusedSimpArgs false
set_option maxRecDepth 100000

namespace Go.Proofs.YtnflcekodobdlaaGreatDoor
open Go.RowKit Go.PK
theorem ap5 : (Tryz.prog.info? 5).map (fun j => (j.zero, j.size, j.bytes)) = some (some (.int .u8 0), 1, 1) := by kernel_rfl
theorem lies66 : liesAt Tryz.prog Tryz.prog.depth 153 ((#[Value.nilIface, Value.nilIface] : Array Value).size / Tryz.prog.cellsOf 153) 0 153 1 = true := by kernel_rfl
theorem c_cc0 {l2 : List (Nat × Obj)} {ro : List Snap} {p : Nat} {r : RowS} {bs : List UInt8} (w : World) (hm : Mem w ((bld2 153 5 p (.pointer none) r (bs.length)) ++ l2) ro) :
  Calls Tryz.prog 124 #[Pt p] w fun e w' => e = .returned (.tuple #[]) ∧ Mem w' ((bld2 153 5 p (Pt p) r (bs.length)) ++ l2) ro := by
 refine enter_in hm (vs := [Pt p]) Tryz.func124 rfl Tryz.ntmps124 rfl ?_
 refine Zs (Zr ?_)
 refine Xm ?_
 refine Xn ?_
 refine Xf 0 rfl u153 rfl sz151 ?_
 refine Xl rfl u151 rfl (at_ownL (vs := [(.pointer none), rowV r bs.length]) (.head _) rfl) ?_
 refine Xb rfl (v_pnil u151 rfl rfl) fun b6 hb6 => ?_
 refine Ze (Zt ?_)
 refine w_cond rfl (fun hc6 => ?_) fun hc6 => ?_
 ·skip
  refine Zr ?_
  refine Xm ?_
  refine Xm ?_
  refine Xv rfl (v_toUns (e := 153) (cs := #[(.pointer none), rowV r bs.length]) (fz := (0, 0)) (m := 1) u151 u192 sz153 rfl (.head _) (show 0 < 2 by decide)) ?_
  refine Xv rfl (v_noEsc Tryz.func144 Zk Zk Zk Zk rfl) ?_
  refine Xv rfl (v_fromUns (e := 153) (cs := #[(.pointer none), rowV r bs.length]) (fz := (0, 0)) u192 u151 ⟨_, (Option.map_eq_some_iff.1 sz153).choose_spec.1⟩ rfl (.head _) lies66) ?_
  refine Xn ?_
  refine Xf 0 rfl u153 rfl sz151 ?_
  refine x_store [] rfl rfl rfl rfl sz151 rfl (by show 1 ≤ 2; decide) ?_
  refine Ze ?_
  exact ret0 rfl (fun w' hm' => ⟨rfl, hm'⟩)
 rw [hb6] at hc6; cases hc6
theorem c_cc1 {l2 : List (Nat × Obj)} {ro : List Snap} {p : Nat} {r : RowS} {bs : List UInt8} (w : World) (hm : Mem w ((bld2 153 5 p (Pt p) r (bs.length)) ++ l2) ro) :
  Calls Tryz.prog 124 #[Pt p] w fun e w' => e = .returned (.tuple #[]) ∧ Mem w' ((bld2 153 5 p (Pt p) r (bs.length)) ++ l2) ro := by
 refine enter_in hm (vs := [Pt p]) Tryz.func124 rfl Tryz.ntmps124 rfl ?_
 refine Zs (Zr ?_)
 refine Xm ?_
 refine Xn ?_
 refine Xf 0 rfl u153 rfl sz151 ?_
 refine Xl rfl u151 rfl (at_ownL (vs := [(Pt p), rowV r bs.length]) (.head _) rfl) ?_
 refine Xb rfl (v_pnil u151 rfl rfl) fun b6 hb6 => ?_
 refine Ze (Zt ?_)
 refine w_cond rfl (fun hc6 => ?_) fun hc6 => ?_
 ·rw [hb6] at hc6; cases hc6
 skip
 refine Zs (Zr ?_)
 refine Xm ?_
 refine Xn ?_
 refine Xf 0 rfl u153 rfl sz151 ?_
 refine Xl rfl u151 rfl (at_ownL (vs := [(Pt p), rowV r bs.length]) (.head _) rfl) ?_
 refine Xm ?_
 refine Xb rfl (v_pne u151 (Option.map_eq_some_iff.1 sz153).choose_spec.1 rfl rfl) fun b19 hb19 => ?_
 refine Ze (Zt ?_)
 refine w_cond rfl (fun hc19 => ?_) fun hc19 => ?_
 ·rw [hb19] at hc19; cases hc19
 skip
 refine w_skip ?_
 exact ret0 rfl (fun w' hm' => ⟨rfl, hm'⟩)
theorem c_cc {l2 : List (Nat × Obj)} {ro : List Snap} {p : Nat} {pp : Value} {r : RowS} {bs : List UInt8} (w : World) (hm : Mem w ((bld2 153 5 p pp r (bs.length)) ++ l2) ro) (hp : ppOK p pp) :
  Calls Tryz.prog 124 #[Pt p] w fun e w' => e = .returned (.tuple #[]) ∧ Mem w' ((bld2 153 5 p (Pt p) r (bs.length)) ++ l2) ro := by
 rcases hp with rfl | rfl
 ·exact c_cc0 w hm
 exact c_cc1 w hm
theorem c_WS {l2 : List (Nat × Obj)} {ro : List Snap} {p : Nat} {pp : Value} {r : RowS} {bs : List UInt8} (w : World) (hm : Mem w ((bld2 153 5 p pp r (bs.length)) ++ l2) ro) (hp : ppOK p pp) (t : ByteArray) (hr : rowOK 1 r bs.length (byC bs)) (hl : bs.length ≤ 4000000000000) (ht : t.size ≤ 4000000000000) :
  Calls Tryz.prog 98 #[Pt p, .string t] w fun e w' => e = .returned (.tuple #[Vi (t.size : Nat), .nilIface]) ∧ ∃ r', rowOK 1 r' (bs ++ bl t).length (byC (bs ++ bl t)) ∧ Mem w' ((bld2 153 5 p (Pt p) r' ((bs ++ bl t).length)) ++ l2) ro := by
 refine enter_in hm (vs := [Pt p, .string t]) Tryz.func98 rfl Tryz.ntmps98 rfl ?_
 refine Zs (Zr ?_)
 refine Xa ?_
 refine Xa ?_
 refine Ze (Zt (Zs (Zr ?_)))
 refine Xm ?_
 refine x_turnf (τ := Unit) (v := .tuple #[]) (fun _ => True) (fun _ => (bld2 153 5 p (Pt p) r (bs.length)) ++ l2) rfl rfl Tryz.func124 Zk rfl (fun w1 hw1 => by have hc := c_cc w1 hw1 hp; exact hc.mono fun e w2 h => ⟨h.1, (), trivial, h.2⟩) fun _ _ => ?_
 refine Ze (Zt (Zs (Zr ?_)))
 refine Xm ?_
 refine Xm ?_
 refine Xn ?_
 refine Xf 1 rfl u153 rfl sz22 ?_
 refine Xl rfl u22 rfl (at_ownL (vs := [(Pt p), rowV r bs.length]) (.head _) rfl) ?_
 refine Xm ?_
 refine x_append_str (e := 5) [(p, _)] (l2 := l2) r (len := bs.length) (xs := byC bs) rfl rfl rfl rfl rfl hr u22 u9 ap5 Zx (by omega) fun r' hr' => ?_
 refine Xn ?_
 refine Xf 1 rfl u153 rfl sz22 ?_
 refine x_store [] rfl rfl rfl rfl sz22 rfl (by show 2 ≤ 2; decide) ?_
 refine Ze (Zt (Zs (Zr ?_)))
 refine Xm ?_
 refine Xv rfl (v_len_str u9 rfl) ?_
 refine Xa ?_
 refine Xa ?_
 refine Ze (Zt (w_ret ?_))
 refine ret2 rfl rfl rfl (fun w' hm' => ⟨rfl, r', ?_, ?_⟩)
 ·rw [byC_app, List.length_append, bl_len]; exact hr'
 rw [List.length_append, bl_len]; exact hm'
theorem k_BLen {p n : Nat} {r : RowS} (w : World) (h : w.cell? ⟨p, 1, none⟩ = some (rowV r n)) :
  Calls Tryz.prog 115 #[Pt p] w fun e w' => e = .returned (Vi (n : Nat)) ∧ Later w w' := by
 refine enter (vs := [Pt p]) Tryz.func115 rfl Tryz.ntmps115 rfl ?_
 refine Zs (Zr ?_)
 refine Xa ?_
 refine Ze (Zt (Zs (Zr ?_)))
 refine Xm ?_
 refine Xn ?_
 refine Xf 1 rfl u153 rfl sz22 ?_
 refine Xl rfl u22 rfl (at_ro (.head _) trivial h) ?_
 refine Xv rfl (v_len_slice u22 rfl) ?_
 refine Xa ?_
 refine Ze (Zt (w_ret ?_))
 refine ret1 rfl rfl (fun w' hm => ⟨?_, hm.base (by simp)⟩)
 rfl
theorem k_BReset {l2 : List (Nat × Obj)} {ro : List Snap} {p : Nat} {pp v : Value} (w : World) (hm : Mem w ((Bk p [pp, v] 153) :: l2) ro) :
  Calls Tryz.prog 116 #[Pt p] w fun e w' => e = .returned (.tuple #[]) ∧ Mem w' ((Bk p [.pointer none, .slice none 0 0] 153) :: l2) ro := by
 refine enter_in hm (vs := [Pt p]) Tryz.func116 rfl Tryz.ntmps116 rfl ?_
 refine Zs (Zr ?_)
 refine Xm ?_
 refine Xn ?_
 refine Xf 0 rfl u153 rfl sz151 ?_
 refine x_store (cs := [pp, v]) (off := 0) (e := 153) (l2 := l2) [] rfl rfl rfl rfl sz151 rfl (by show 1 ≤ 2; decide) ?_
 refine Ze (Zt (Zr ?_))
 refine Xm ?_
 refine Xn ?_
 refine Xf 1 rfl u153 rfl sz22 ?_
 refine x_store (cs := [.pointer none, v]) (off := 1) (e := 153) (l2 := l2) [] rfl rfl rfl rfl sz22 rfl (by show 2 ≤ 2; decide) ?_
 refine Ze ?_
 exact ret0 rfl (fun w' hm' => ⟨rfl, hm'⟩)
theorem cl5 : Tryz.prog.cellsOf 5 = 1 := by kernel_rfl
theorem k_BStr0 {l2 : List (Nat × Obj)} {ro : List Snap} {p g c : Nat} {cs : List Value} {pp : Value} {bs : List UInt8} (w : World) (hm : Mem w ((Bk p [pp, .slice (some ⟨g, 0, none⟩) bs.length c] 153) :: (Bk g cs 5) :: l2) ro) (hc0 : c ≠ 0) (hb0 : bs ≠ []) (htk : cs.take bs.length = byC bs) (h63 : bs.length ≤ 9223372036854775807) :
  Calls Tryz.prog 101 #[Pt p] w fun e w' => e = .returned (.string ⟨bs.toArray⟩) ∧ Mem w' ((Bk p [pp, .slice (some ⟨g, 0, none⟩) bs.length c] 153) :: l2) ro := by
 refine enter_in hm (vs := [Pt p]) Tryz.func101 rfl Tryz.ntmps101 rfl ?_
 refine Zs (Zr ?_)
 refine Xa ?_
 refine Ze (Zt (Zs ?_))
 refine rg_draw 10 [(true, 0), (true, 1), (true, 2), (true, 3), (true, 4), (true, 5), (true, 6), (true, 7), (true, 8), (true, 9)] Zk Zk ?_
 refine Xm ?_
 refine Xn ?_
 refine Xf 1 rfl u153 rfl sz22 ?_
 refine Xl rfl u22 rfl (at_ownL (vs := [pp, .slice (some ⟨g, 0, none⟩) bs.length c]) (.head _) rfl) ?_
 refine Xv rfl (v_sliceData rfl hc0) ?_
 refine Xm ?_
 refine Xn ?_
 refine Xf 1 rfl u153 rfl sz22 ?_
 refine Xl rfl u22 rfl (at_ownL (vs := [pp, .slice (some ⟨g, 0, none⟩) bs.length c]) (.head _) rfl) ?_
 refine Xv rfl (v_len_slice u22 rfl) ?_
 refine x_unsafeStr (bs := bs) [_] rfl rfl rfl rfl u174 cl5 rfl hb0 htk h63 ?_
 refine Xa ?_
 refine Ze (Zt (w_ret ?_))
 exact ret1 rfl rfl (fun w' hm' => ⟨rfl, hm'.less ((List.sublist_cons_self _ _).cons_cons _) (fun _ h => h)⟩)
theorem k_BStr {l2 : List (Nat × Obj)} {ro : List Snap} {p : Nat} {pp : Value} {r : RowS} {bs : List UInt8} (w : World) (hm : Mem w ((bld2 153 5 p pp r (bs.length)) ++ l2) ro) (hr : rowOK 1 r bs.length (byC bs)) (hb0 : bs ≠ []) :
  Calls Tryz.prog 101 #[Pt p] w fun e w' => e = .returned (.string ⟨bs.toArray⟩) ∧ Mem w' ((Bk p [pp, rowV r bs.length] 153) :: l2) ro := by
 have hl : 0 < bs.length := List.length_pos_iff.2 hb0
 obtain ⟨g, cs, c, rfl, -⟩ := hr.cell (j := 0) (by rw [byC_len]; exact hl)
 obtain ⟨-, h2, h3, h4, h5⟩ := hr
 dsimp only at h2 h3 h4 h5
 rw [Nat.mul_one] at h4 h5
 have hmx : maxLen ≤ 9223372036854775807 := by decide
 exact k_BStr0 (c := c) w hm (by omega) hb0 h5 (by omega)
open Go.RowKit Go.PK
structure LD (w : World) : Prop where
  tab : Lib.TabIs Tryz.prog w "internal/strconv.uint64pow10" .u64 Lib.pow10Tab
  cel : ∃ m, w.cell? ⟨3, 0, none⟩ = some (Vi m)
  syn : ∃ tp p, w.var? Tryz.prog "strconv.ErrSyntax" = some #[.iface tp p]
  rng : ∃ tp p, w.var? Tryz.prog "strconv.ErrRange" = some #[.iface tp p]
theorem LD.later {w w' : World} (h : LD w) (hl : Later w w') : LD w' := by
 obtain ⟨h1, ⟨m, h2⟩, ⟨t1, p1, h3⟩, ⟨t2, p2, h4⟩⟩ := h
 exact ⟨Joins.tab_stays (g := Tryz.prog.globalNamed "internal/strconv.uint64pow10" |>.getD 0) Zk h1 hl (Nat.le_refl _), ⟨m, by rw [cell_keep (hl.block 3 (cell_lt (p := ⟨3, 0, none⟩) h2))]; exact h2⟩, ⟨t1, p1, Joins.var_stays (g := Tryz.prog.globalNamed "strconv.ErrSyntax" |>.getD 0) Zk h3 hl (Nat.le_refl _)⟩, ⟨t2, p2, Joins.var_stays (g := Tryz.prog.globalNamed "strconv.ErrRange" |>.getD 0) Zk h4 hl (Nat.le_refl _)⟩⟩
theorem k_Cut {k : Nat} (h : k < rowsT.length) (w : World) (hL : LD w) :
  Calls Tryz.prog 147 #[.string (rowsT[k].1 ++ spcB ++ rowsT[k].2), .string ⟨#[32]⟩] w fun e w' => e = .returned (.tuple #[.string rowsT[k].1, .string rowsT[k].2, .bool true]) ∧ Later w w' := by
 obtain ⟨m, hm⟩ := hL.cel
 have h1 := rowsS_cut _ (List.getElem_mem h)
 have h2 := rowsS_small _ (List.getElem_mem h)
 refine (Tryz.strings_Cut (rowsT[k].1 ++ spcB ++ rowsT[k].2) ⟨#[32]⟩ m w (by omega) hm).mono fun e w' ⟨h3, n, h4⟩ => ⟨?_, ?_⟩
 ·rw [h3, show (⟨#[32]⟩ : ByteArray).data.toList = [32] from rfl, h1, ba_toList, ba_toList]
 rw [h4]; exact ⟨rfl, rfl, rfl, Nat.le_refl _, fun k _ => rfl⟩
def dn0 (dn : List (Nat × ByteArray)) (p k : Nat) (hk : k < rowsT.length) : Prop := dn ++ (runesAt rowsT[k].2 p).map (fun c => (c, rowsT[k].1)) = (runes rowsT[k].2).map (fun c => (c, rowsT[k].1))
set_option maxHeartbeats 1000000 in
theorem k_alphabet {Br : Nat} (w : World) (hL : LD w) (hA : ∀ k (h : k < rowsT.length), w.cell? ⟨Br, k, none⟩ = some (.string (rowsT[k].1 ++ spcB ++ rowsT[k].2))) :
  Calls Tryz.prog 131 #[Value.slice (some ⟨Br, 0, none⟩) 31 31] w fun e w' => ∃ mT es ck, e = .returned (.map (some mT)) ∧ MapF Tryz.prog 21 es (tabM tabR) ∧ Later w w' ∧ Mem w' [(mT, Obj.map es ck)] [(w, fun _ => True)] := by
 refine enter (vs := [Value.slice (some ⟨Br, 0, none⟩) 31 31]) Tryz.func131 rfl Tryz.ntmps131 rfl ?_
 refine Zs (Zr ?_)
 refine Xa ?_
 refine Ze (Zt (Zs (Zr ?_)))
 refine x_makeMap rfl rfl rfl ?_
 intro p11
 refine Xa ?_
 refine Ze (Zt (Zs (Zs (Zr ?_))))
 refine Xm ?_
 refine Xv rfl (v_len_slice u38 rfl) ?_
 refine Xm ?_
 refine Ze (Zt (w_block ?_))
 refine w_loop (σ := Nat × Array MapEntry × Nat) (fun z => z.1 ≤ 31 ∧ MapF Tryz.prog 21 z.2.1 (tabM (tabOf (rowsT.take z.1)))) (fun z => [(3, Value.map (some p11)), (12, Value.slice (some ⟨Br, 0, none⟩) 31 31), (13, Vi 31), (14, Vi (z.1 : Nat))]) (fun z => [(p11, Obj.map z.2.1 z.2.2)]) (fun z => [(w, fun _ => True)]) (fun z => 31 - z.1) ((0, #[], 0)) (⟨Nat.zero_le _, MapF.empty⟩) (l_start Zu (fun _ h => h)) ?_
 rintro ⟨k, es, ck⟩ ⟨hk, hM⟩
 refine w_state ([(3, Value.map (some p11)), (12, Value.slice (some ⟨Br, 0, none⟩) 31 31), (13, Vi 31), (14, Vi (k : Nat))]) ([(p11, Obj.map es ck)]) ([(w, fun _ => True)]) ?_
 dsimp only at hk hM
 refine Zs (Zr ?_)
 refine Xb rfl (v_lss rfl rfl) fun b15 hb15 => ?_
 refine Ze (Zt (Zs ?_))
 refine w_cond rfl (fun hc15 => ?_) fun hc15 => ?_
 ·simp only [hb15, Qz, ne_eq] at hc15
  have hkl : k < rowsT.length := by rw [rowsT_len]; omega
  refine w_skip (Zt (Zs (w_block (Zs (Zr ?_)))))
  refine Xv rfl (v_indexAddr u38 sz9 rfl rfl (by omega) rfl) ?_
  refine Xl rfl u9 rfl (at_ro (.head _) trivial (v := Value.string (rowsT[k].1 ++ spcB ++ rowsT[k].2)) (by rw [Nat.zero_add, Nat.mul_one]; exact hA k hkl)) ?_
  refine Xa ?_
  refine Ze (Zt (Zs (Zr ?_)))
  refine Xm ?_
  refine x_callv rfl rfl rfl Tryz.func147 Zk rfl (fun w1 hw1 => k_Cut hkl w1 (hL.later (hw1.base (by simp)))) ?_
  refine Xm ?_
  refine Xe ?_
  refine Xe ?_
  refine Xe ?_
  refine Xa ?_
  refine Xa ?_
  refine Xa ?_
  refine Ze (Zt (Zs (Zr ?_)))
  refine Xm ?_
  refine x_srange rfl rfl rfl u9 rfl ?_
  intro r25
  refine Ze (Zt (w_block ?_))
  refine w_loop (σ := Nat × List (Nat × ByteArray) × Array MapEntry × Nat) (fun z => dn0 z.2.1 z.1 k hkl ∧ MapF Tryz.prog 21 z.2.2.1 (tabM (tabOf (rowsT.take k) ++ z.2.1))) (fun z => [(3, Value.map (some p11)), (12, Value.slice (some ⟨Br, 0, none⟩) 31 31), (13, Vi 31), (14, Vi (k : Nat)), (6, Value.string rowsT[k].1), (25, Pt r25)]) (fun z => [(r25, Obj.stringIter rowsT[k].2 z.1), (p11, Obj.map z.2.2.1 z.2.2.2)]) (fun z => [(w, fun _ => True)]) (fun z => rowsT[k].2.size - z.1) ((0, [], es, ck)) (⟨rfl, by rw [List.append_nil]; exact hM⟩) (l_start Zu (fun _ h => h)) ?_
  rintro ⟨p, dn, es, ck⟩ ⟨hdn, hM⟩
  refine w_state ([(3, Value.map (some p11)), (12, Value.slice (some ⟨Br, 0, none⟩) 31 31), (13, Vi 31), (14, Vi (k : Nat)), (6, Value.string rowsT[k].1), (25, Pt r25)]) ([(r25, Obj.stringIter rowsT[k].2 p), (p11, Obj.map es ck)]) ([(w, fun _ => True)]) ?_
  dsimp only at hdn hM
  refine Zs ?_
  by_cases hp : p < rowsT[k].2.size
  ·skip
   refine Zr ?_
   refine x_snext [] rfl rfl rfl rfl (fun h => absurd hp h) (fun _ => ?_)
   refine Xb rfl (v_extract rfl rfl) fun b27 hb27 => ?_
   obtain rfl : b27 = true := hb27
   refine Ze (Zt (Zs ?_))
   refine w_cond rfl (fun hc27 => ?_) fun hc27 => ?_
   ·skip
    refine w_skip (Zt (w_block (Zs (Zr ?_))))
    refine Xe ?_
    refine Xa ?_
    refine Ze (Zt (Zr ?_))
    refine Xm ?_
    refine Xm ?_
    refine Xm ?_
    refine x_mapUpdate [(r25, _)] rfl rfl rfl rfl u160 (Maps.int_keyed u21) (Maps.keyOf_int_mk u21 (wf_i32 (decode_le _ _))) rfl hM ?_
    intro es29 clock29 hmf29
    refine Ze (b_norm ?_)
    exact l_norm (p + (Utf8.decode rowsT[k].2 p).2, dn ++ [((Utf8.decode rowsT[k].2 p).1, rowsT[k].1)], es29, clock29) ⟨by unfold dn0 at hdn ⊢; rw [← hdn, runesAt_step hp, List.map_cons, List.append_assoc]; rfl, by dsimp only; rw [← List.append_assoc, tabM_snoc]; exact hmf29⟩ (by have := decode_pos rowsT[k].2 p; simp only; omega) Zu (fun _ h => h)
   cases hc27
  skip
  refine Zr ?_
  refine x_snext [] rfl rfl rfl rfl (fun _ => ?_) (fun h => absurd h hp)
  refine Xb rfl (v_extract rfl rfl) fun b27 hb27 => ?_
  obtain rfl : b27 = false := hb27
  refine Ze (Zt (Zs ?_))
  refine w_cond rfl (fun hc27 => ?_) fun hc27 => ?_
  ·cases hc27
  skip
  refine w_exit ?_
  refine t_exit ?_
  refine t_exit ?_
  refine b_hit ?_
  refine b_norm (Zt (Zr ?_))
  refine Xv rfl (v_addi rfl rfl rfl Zo) ?_
  refine Xm ?_
  refine Ze ?_
  exact l_norm (k + 1, es, ck) ⟨by dsimp only; omega, by dsimp only; rw [tabOf_succ hkl]; unfold dn0 at hdn; rw [runesAt_end hp, List.map_nil, List.append_nil] at hdn; rw [← hdn]; exact hM⟩ (by simp only; omega) Zu (fun _ h => h.less (List.sublist_cons_self _ _) (fun _ h => h))
 simp only [hb15, Qz, ne_eq] at hc15
 obtain rfl : k = 31 := by omega
 refine w_exit ?_
 refine t_exit ?_
 refine t_exit ?_
 refine b_hit ?_
 refine Zt (Zs (Zr ?_))
 refine Xm ?_
 refine Xa ?_
 refine Ze (Zt (w_ret ?_))
 exact ret1 rfl rfl (fun w' hm => ⟨p11, es, ck, rfl, by rw [show rowsT.take 31 = rowsT from rfl] at hM; exact hM, hm.base (by simp), hm⟩)
theorem k_letters (w : World) (hL : LD w) :
  Calls Tryz.prog 113 #[] w fun e w' => ∃ mT es ck, e = .returned (.map (some mT)) ∧ MapF Tryz.prog 21 es (tabM tabR) ∧ Later w w' ∧ Mem w' [(mT, Obj.map es ck)] [(w, fun _ => True)] := by
 refine enter (vs := []) Tryz.func113 rfl Tryz.ntmps113 rfl ?_
 refine Zs (Zr ?_)
 refine Xa ?_
 refine Ze (Zt (Zs (Zr ?_)))
 refine x_buildSliceL (cs := rowsS.map Value.string) rfl rfl rfl u38 sz9 zr9 rfl rfl Zk ?_
 intro p1
 refine x_own (τ := Nat × Array MapEntry × Nat) (fun z => Value.map (some z.1)) (fun z => MapF Tryz.prog 21 z.2.1 (tabM tabR)) (fun z => [(z.1, Obj.map z.2.1 z.2.2), (Bk p1 (rowsS.map Value.string) 9)]) rfl rfl rfl Tryz.func131 Zk rfl (fun w1 hw1 => (k_alphabet w1 (hL.later (hw1.base (by simp))) (fun k hk => by rw [hw1.cell_own (.head _) k, List.getElem?_toArray, List.getElem?_map, rowsS_at hk]; rfl)).mono fun e w2 ⟨mT, es, ck, h1, h2, h3, h4⟩ => ⟨(mT, es, ck), h1, h3, h2, hw1.join2 h4⟩) ?_
 rintro ⟨mT, es, ck⟩ hM
 refine Xa ?_
 refine Ze (Zt (w_ret ?_))
 exact ret1 rfl rfl (fun w' hm => ⟨mT, es, ck, rfl, hM, hm.base (by simp), hm.less ((List.nil_sublist _).cons_cons _) (fun _ h => h)⟩)
open Go.RowKit Go.PK
set_option maxHeartbeats 2000000 in
theorem k_words1 {w w0 : World} {ro : List Snap} {L Bs : Nat} (X : RowS → List ByteArray → List (Nat × Obj)) (s : ByteArray) (hs : s.size ≤ 4000000) (hm : Mem w (X none []) ro) (hro : (w0, fun _ => True) ∈ ro) (hB : w0.cell? ⟨Bs, 0, none⟩ = some (.string s)) (hL : ∀ w1, Mem w1 (X none []) ro → LD w1) (hY : ∀ (Y : List (Nat × Obj)) (ws : List ByteArray) (x : ByteArray) (r : RowS) (w1 : World), rowOK 1 r ws.length (ws.map Value.string) → (∃ t, ws ++ x :: t = wordsP s) → Mem w1 (Y ++ X r ws) ro → YieldAt Fence.wide (2 - 1) Tryz.prog L [Value.string x].toArray w1 fun e w2 => e = .returned (.bool true) ∧ ∃ r', rowOK 1 r' (ws ++ [x]).length ((ws ++ [x]).map Value.string) ∧ Mem w2 (Y ++ X r' (ws ++ [x])) ro) :
  Calls Tryz.prog 112 #[Value.func (.yield L) #[] #[], Pt Bs] w fun e w' => (∃ v, e = .returned v) ∧ ∃ rr, rowOK 1 rr (wordsP s).length ((wordsP s).map Value.string) ∧ Mem w' (X rr (wordsP s)) ro := by
 refine enter_in hm (vs := [Value.func (.yield L) #[] #[], Pt Bs]) Tryz.func112 rfl Tryz.ntmps112 rfl ?_
 refine Zs (Zr ?_)
 refine x_own (τ := Nat × Array MapEntry × Nat) (fun z => Value.map (some z.1)) (fun z => MapF Tryz.prog 21 z.2.1 (tabM tabR)) (fun z => (z.1, Obj.map z.2.1 z.2.2) :: X none []) rfl rfl rfl Tryz.func113 Zk rfl (fun w1 hw1 => (k_letters w1 (hL w1 hw1)).mono fun e w2 ⟨mT, es, ck, h1, h2, h3, h4⟩ => ⟨(mT, es, ck), h1, h3, h2, hw1.join2 h4⟩) ?_
 rintro ⟨mT, esT, ckT⟩ hM
 dsimp only at hM ⊢
 refine Xa ?_
 refine Ze (Zt (Zs (Zr ?_)))
 refine x_alloc rfl rfl rfl zr153 ?_
 intro p4
 refine Ze (Zt (Zs (Zs (Zr ?_))))
 refine Xl rfl u9 rfl (at_ro hro trivial hB) ?_
 refine x_srange rfl rfl rfl u9 rfl ?_
 intro r10
 refine Ze (Zt (w_block ?_))
 refine w_loop (σ := Nat × List UInt8 × Value × RowS × List ByteArray × RowS) (fun z => z.2.2.2.2.1 ++ wordsF (runesAt s z.1) (bsB z.2.1) = wordsP s ∧ rowOK 1 z.2.2.2.1 (z.2.1).length (byC (z.2.1)) ∧ ppOK p4 z.2.2.1 ∧ rowOK 1 z.2.2.2.2.2 (z.2.2.2.2.1).length ((z.2.2.2.2.1).map Value.string) ∧ (z.2.1).length + wgt (runesAt s z.1) ≤ s.size) (fun z => [(0, Value.func (.yield L) #[] #[]), (3, Value.map (some mT)), (4, Pt p4), (10, Pt r10)]) (fun z => (bld2 153 5 p4 z.2.2.1 z.2.2.2.1 (z.2.1.length)) ++ ((r10, Obj.stringIter s (z.1)) :: (mT, Obj.map esT ckT) :: X z.2.2.2.2.2 z.2.2.2.2.1)) (fun z => ro) (fun z => s.size - z.1) ((0, [], .pointer none, none, [], none)) (⟨rfl, rowOK_nil, .inl rfl, rowOK_nil, by show 0 + wgt (runes s) ≤ _; have := wgt_runes s; omega⟩) (l_start Zu (fun _ h => (h.perm (List.Perm.swap _ _ _)).to rfl)) ?_
 rintro ⟨p, bs, pp, r, ws, rr⟩ ⟨hW, hr, hpp, hrr, hwg⟩
 refine w_state ([(0, Value.func (.yield L) #[] #[]), (3, Value.map (some mT)), (4, Pt p4), (10, Pt r10)]) ((bld2 153 5 p4 pp r (bs.length)) ++ ((r10, Obj.stringIter s (p)) :: (mT, Obj.map esT ckT) :: X rr ws)) (ro) ?_
 dsimp only at hW hr hpp hrr hwg
 refine Zs ?_
 by_cases hp : p < s.size
 ·skip
  refine Zr ?_
  refine x_snext ((bld2 153 5 p4 pp r (bs.length))) rfl rfl rfl rfl (fun h => absurd hp h) (fun _ => ?_)
  refine Xb rfl (v_extract rfl rfl) fun b12 hb12 => ?_
  obtain rfl : b12 = true := hb12
  refine Ze (Zt (Zs ?_))
  refine w_cond rfl (fun hc12 => ?_) fun hc12 => ?_
  ·skip
   refine w_skip (Zt (w_block (Zs (Zr ?_))))
   refine Xe ?_
   refine Xa ?_
   refine Ze (Zt (Zs (Zr ?_)))
   refine Xm ?_
   refine Xm ?_
   refine x_callv rfl rfl rfl Tryz.func114 Zk rfl (fun w1 hw1 => k_fold _ (decode_le _ _) w1 hM (hw1.own_at _ (List.mem_append_right _ (.tail _ (.head _))))) ?_
   refine Xa ?_
   refine Ze (Zt (Zs (Zs (Zr ?_))))
   refine Xm ?_
   refine Xb rfl (v_sneq rfl rfl) fun b18 hb18 => ?_
   refine Ze (Zt ?_)
   refine w_cond rfl (fun hc18 => ?_) fun hc18 => ?_
   ·simp only [hb18, Qz, ne_eq] at hc18
    have hne : (foldC (Utf8.decode s p).1) ≠ spcB := hc18
    have hbl : (bl (foldC (Utf8.decode s p).1)).length = (foldC (Utf8.decode s p).1).size := bl_len _
    have hfc := foldC_w s p
    refine Zs (Zr ?_)
    refine Xm ?_
    refine x_turnf (τ := RowS) (v := .tuple #[Vi ((foldC (Utf8.decode s p).1).size : Nat), .nilIface]) (fun r' => rowOK 1 r' (bs ++ bl (foldC (Utf8.decode s p).1)).length (byC (bs ++ bl (foldC (Utf8.decode s p).1)))) (fun r' => (bld2 153 5 p4 (Pt p4) r' ((bs ++ bl (foldC (Utf8.decode s p).1)).length)) ++ ((r10, Obj.stringIter s (p + (Utf8.decode s p).2)) :: (mT, Obj.map esT ckT) :: X rr ws)) rfl rfl Tryz.func98 Zk rfl (fun w1 hw1 => c_WS w1 hw1 hpp (foldC (Utf8.decode s p).1) hr (by omega) (by have := foldC_le (Utf8.decode s p).1; omega)) fun r' hr' => ?_
    refine Ze (Zt ?_)
    refine w_exit ?_
    refine t_exit ?_
    refine b_hit ?_
    exact l_norm (p + (Utf8.decode s p).2, (bs ++ bl (foldC (Utf8.decode s p).1)), (Pt p4), r', ws, rr) ⟨by dsimp only; rw [← hW, runesAt_step hp, words_go hne]; rfl, hr', .inr rfl, hrr, by dsimp only; rw [runesAt_step hp, wgt_cons] at hwg; rw [List.length_append, hbl]; omega⟩ (by have := decode_pos s p; simp only; omega) Zu (fun _ h => h)
   simp only [hb18, Qz, ne_eq] at hc18
   have hsp : (foldC (Utf8.decode s p).1) = spcB := hc18
   refine w_skip (Zt (Zs (Zs ?_)))
   rcases Decidable.em (bs = []) with hb0 | hb0
   ·subst hb0
    refine Zr ?_
    refine x_callv rfl rfl rfl Tryz.func115 Zk rfl (fun w1 hw1 => k_BLen (r := r) (n := ([] : List UInt8).length) w1 (at_ownL (vs := [pp, rowV r ([] : List UInt8).length]) (.head _) rfl w1 hw1)) ?_
    refine Xb rfl (v_gtr rfl rfl) fun b22 hb22 => ?_
    obtain rfl : b22 = false := hb22.trans (decide_eq_false (by simp))
    refine Xm ?_
    refine x_no rfl rfl rfl rfl rfl ?_
    refine x_no rfl rfl rfl rfl rfl ?_
    refine x_no rfl rfl rfl rfl rfl ?_
    refine x_no rfl rfl rfl rfl rfl ?_
    refine Xv (v := .bool false) rfl (v_pick (b := false) rfl rfl) ?_
    refine Ze (Zt ?_)
    refine w_cond rfl (fun hc28 => ?_) fun hc28 => ?_
    ·cases hc28
    skip
    refine w_skip (Zt (Zr ?_))
    refine x_turnf (τ := Unit) (v := .tuple #[]) (fun _ => True) (fun _ => (Bk p4 [.pointer none, .slice none 0 0] 153) :: ((r10, Obj.stringIter s (p + (Utf8.decode s p).2)) :: (mT, Obj.map esT ckT) :: X rr ws)) rfl rfl Tryz.func116 Zk rfl (fun w1 hw1 => (k_BReset w1 (hw1.less ((List.sublist_append_right _ _).cons_cons _) (fun _ h => h))).mono fun e w2 h => ⟨h.1, (), trivial, h.2⟩) fun _ _ => ?_
    refine Ze (b_norm ?_)
    exact l_norm (p + (Utf8.decode s p).2, [], .pointer none, none, ws, rr) ⟨by dsimp only; rw [← hW, runesAt_step hp, words_blank hsp], rowOK_nil, .inl rfl, hrr, by dsimp only; rw [runesAt_step hp, wgt_cons] at hwg; show 0 + _ ≤ _; simp only [List.length_nil] at hwg; omega⟩ (by have := decode_pos s p; simp only; omega) Zu (fun _ h => h)
   skip
   refine rg_yield 5 2 Zk rfl ?_
   refine x_callv rfl rfl rfl Tryz.func115 Zk rfl (fun w1 hw1 => k_BLen (r := r) (n := bs.length) w1 (at_ownL (vs := [pp, rowV r bs.length]) (.head _) rfl w1 hw1)) ?_
   refine Xb rfl (v_gtr rfl rfl) fun b22 hb22 => ?_
   obtain rfl : b22 = true := hb22.trans (decide_eq_true (by have := List.length_pos_iff.2 hb0; omega))
   refine Xm ?_
   refine x_valg rfl rfl rfl rfl rfl (v_move rfl) ?_
   refine x_turng (τ := Unit) (v := .string (bsB bs)) (fun _ => True) (fun _ => (Bk p4 [pp, rowV r bs.length] 153) :: ((r10, Obj.stringIter s (p + (Utf8.decode s p).2)) :: (mT, Obj.map esT ckT) :: X rr ws)) rfl rfl rfl rfl Tryz.func101 Zk rfl (fun w1 hw1 => (k_BStr w1 hw1 hr hb0).mono fun e w2 h => ⟨h.1, (), trivial, h.2⟩) fun _ _ => ?_
   refine Ze ?_
   refine s_yieldG (fun r' : RowS => rowOK 1 r' (ws ++ [bsB bs]).length ((ws ++ [bsB bs]).map Value.string)) (fun r' => [(Bk p4 [pp, rowV r bs.length] 153), (r10, Obj.stringIter s (p + (Utf8.decode s p).2)), (mT, Obj.map esT ckT)] ++ X r' (ws ++ [bsB bs])) rfl rfl rfl rfl rfl rfl rfl (fun w1 hw1 => hY [(Bk p4 [pp, rowV r bs.length] 153), (r10, Obj.stringIter s (p + (Utf8.decode s p).2)), (mT, Obj.map esT ckT)] ws (bsB bs) rr w1 hrr ⟨_, by rw [← hW, runesAt_step hp, words_cut hsp hb0]⟩ hw1) fun r' hr' => ?_
   refine s_rest Zk rfl ?_
   refine x_boolg rfl rfl rfl rfl rfl (v_not rfl) fun b27 hb27 => ?_
   refine Xb rfl (v_and (g := true) rfl rfl) fun b28 hb28 => ?_
   obtain rfl : b28 = false := hb28.trans (by rw [hb27]; rfl)
   refine Ze (Zt ?_)
   refine w_cond rfl (fun hc28 => ?_) fun hc28 => ?_
   ·cases hc28
   skip
   refine w_skip (Zt (Zr ?_))
   refine x_turnf (τ := Unit) (v := .tuple #[]) (fun _ => True) (fun _ => (Bk p4 [.pointer none, .slice none 0 0] 153) :: ((r10, Obj.stringIter s (p + (Utf8.decode s p).2)) :: (mT, Obj.map esT ckT) :: X r' (ws ++ [bsB bs]))) rfl rfl Tryz.func116 Zk rfl (fun w1 hw1 => (k_BReset w1 (hw1)).mono fun e w2 h => ⟨h.1, (), trivial, h.2⟩) fun _ _ => ?_
   refine Ze (b_norm ?_)
   exact l_norm (p + (Utf8.decode s p).2, [], .pointer none, none, ws ++ [bsB bs], r') ⟨by dsimp only; rw [← hW, runesAt_step hp, words_cut hsp hb0, List.append_assoc]; rfl, rowOK_nil, .inl rfl, hr', by dsimp only; rw [runesAt_step hp, wgt_cons] at hwg; show 0 + _ ≤ _; omega⟩ (by have := decode_pos s p; simp only; omega) Zu (fun _ h => h)
  cases hc12
 rw [runesAt_end hp] at hW hwg
 refine Zr ?_
 refine x_snext ((bld2 153 5 p4 pp r (bs.length))) rfl rfl rfl rfl (fun _ => ?_) (fun h => absurd h hp)
 refine Xb rfl (v_extract rfl rfl) fun b12 hb12 => ?_
 obtain rfl : b12 = false := hb12
 refine Ze (Zt (Zs ?_))
 refine w_cond rfl (fun hc12 => ?_) fun hc12 => ?_
 ·cases hc12
 skip
 refine w_exit ?_
 refine t_exit ?_
 refine t_exit ?_
 refine b_hit ?_
 refine Zt (Zs (Zr ?_))
 refine x_callv rfl rfl rfl Tryz.func115 Zk rfl (fun w1 hw1 => k_BLen (r := r) (n := bs.length) w1 (at_ownL (vs := [pp, rowV r bs.length]) (.head _) rfl w1 hw1)) ?_
 refine Xb rfl (v_gtr rfl rfl) fun b31 hb31 => ?_
 refine Ze (Zt ?_)
 refine w_cond rfl (fun hc31 => ?_) fun hc31 => ?_
 ·simp only [hb31, Qz, ne_eq] at hc31
  have hb0 : bs ≠ [] := fun e => by subst e; simp at hc31
  refine rg_yield 2 2 Zk rfl ?_
  refine Xm ?_
  refine x_turnf (τ := Unit) (v := .string (bsB bs)) (fun _ => True) (fun _ => (Bk p4 [pp, rowV r bs.length] 153) :: ((r10, Obj.stringIter s (p)) :: (mT, Obj.map esT ckT) :: X rr ws)) rfl rfl Tryz.func101 Zk rfl (fun w1 hw1 => (k_BStr w1 hw1 hr hb0).mono fun e w2 h => ⟨h.1, (), trivial, h.2⟩) fun _ _ => ?_
  refine Ze ?_
  refine s_yield (fun r' : RowS => rowOK 1 r' (ws ++ [bsB bs]).length ((ws ++ [bsB bs]).map Value.string)) (fun r' => [(Bk p4 [pp, rowV r bs.length] 153), (r10, Obj.stringIter s (p)), (mT, Obj.map esT ckT)] ++ X r' (ws ++ [bsB bs])) rfl rfl rfl rfl rfl (fun w1 hw1 => hY [(Bk p4 [pp, rowV r bs.length] 153), (r10, Obj.stringIter s (p)), (mT, Obj.map esT ckT)] ws (bsB bs) rr w1 hrr ⟨[], by rw [← hW, words_end hb0]⟩ hw1) fun r' hr' => ?_
  refine s_rest Zk rfl ?_
  refine Ze ?_
  rw [words_end hb0] at hW
  rw [hW] at hr'
  exact ret0 rfl (fun w' hm' => ⟨⟨_, rfl⟩, r', hr', by rw [hW] at hm'; exact hm'.less ((List.sublist_cons_self _ _).trans ((List.sublist_cons_self _ _).trans (List.sublist_cons_self _ _))) (fun _ h => h)⟩)
 simp only [hb31, Qz, ne_eq] at hc31
 obtain rfl : bs = [] := List.eq_nil_of_length_eq_zero (by omega)
 refine w_skip ?_
 rw [words_stop, List.append_nil] at hW
 subst hW
 exact ret0 rfl (fun w' hm' => ⟨⟨_, rfl⟩, rr, hrr, hm'.less (((List.sublist_cons_self _ _).trans (List.sublist_cons_self _ _)).trans (List.sublist_append_right _ _)) (fun _ h => h)⟩)
open Go.RowKit Go.PK
theorem perm3 {α : Type} {a b c : α} {O Y : List α} : (Y ++ (a :: b :: c :: O)).Perm (a :: c :: (O ++ (b :: Y))) :=
 List.perm_append_comm.trans ((((List.Perm.swap c b _).trans (List.perm_middle.symm.cons c))).cons a)
theorem k_words (s : ByteArray) (w : World) :
  Calls Tryz.prog 84 #[.string s] w fun e w' => ∃ Bs, e = .returned (Value.func (.func 112) #[] #[Pt Bs]) ∧ Later w w' ∧ w'.cell? ⟨Bs, 0, none⟩ = some (.string s) := by
 refine enter (vs := [.string s]) Tryz.func84 rfl Tryz.ntmps84 rfl ?_
 refine Zs (Zr ?_)
 refine x_box rfl rfl rfl rfl ?_
 intro p1
 refine Xa ?_
 refine Ze (Zt (Zs (Zr ?_)))
 refine Xv rfl (v_func rfl) ?_
 refine Xa ?_
 refine Ze (Zt (w_ret ?_))
 exact ret1 rfl rfl (fun w' hm => ⟨p1, rfl, hm.base (by simp), at_ownL (vs := [Value.string s]) (.head _) rfl w' hm⟩)
theorem ap9 : (Tryz.prog.info? 9).map (fun j => (j.zero, j.size, j.bytes)) = some (some (.string ⟨#[]⟩), 1, 16) := by kernel_rfl
set_option maxHeartbeats 1000000 in
theorem k_AppSeq (s : ByteArray) {Bs : Nat} (w : World) (hs : s.size ≤ 4000000) (hB : w.cell? ⟨Bs, 0, none⟩ = some (.string s)) (hL : LD w) :
  Calls Tryz.prog 111 #[.slice none 0 0, Value.func (.func 112) #[] #[Pt Bs]] w fun e w' => ∃ r, e = .returned (rowV r (wordsP s).length) ∧ rowOK 1 r (wordsP s).length ((wordsP s).map Value.string) ∧ Mem w' (rowO 9 r) [(w, fun _ => True)] := by
 refine enterM (vs := [.slice none 0 0, Value.func (.func 112) #[] #[Pt Bs]]) 2 Tryz.func111 rfl Tryz.ntmps111 rfl ?_
 refine Zs (Zr ?_)
 refine x_box rfl rfl rfl rfl ?_
 intro p2
 refine Xa ?_
 refine Ze (Zt (Zs (Zs (Zr ?_))))
 refine Xm ?_
 refine Ze (Zt (w_block ?_))
 refine w_range (fun r : RowS => rowOK 1 r (wordsP s).length ((wordsP s).map Value.string)) (fun r => (Bk p2 [rowV r (wordsP s).length] 38) :: rowO 9 r) rfl (enters_of Tryz.func112 Zk rfl) ?_ ?_
 ·intro L D fn tmps w1 hfh hm1
  refine (k_words1 (Bs := Bs) (L := L) (w0 := w) (fun r ws => (L, .loop (recL .ready fn tmps #[7] _ _ D)) :: (D, .deferred (some [])) :: (Bk p2 [rowV r (ws).length] 38) :: rowO 9 r) s hs (hm1.to rfl) (by simp) hB (fun w2 h => hL.later (h.base (by simp))) ?_).mono ?_
  ·intro Y ws x r w2 hr hpre hm2
   have hlen : ws.length + 1 ≤ s.size + 1 := by
    obtain ⟨t, ht⟩ := hpre
    have h1 := wordsP_len s
    rw [← ht, List.length_append, List.length_cons] at h1
    omega
   refine yield_one (m := 1) (hm2.perm perm3) hfh rfl ?_
   refine ri_text (lets_round _) Zk ?_
   refine Xa ?_
   refine Ze ?_
   refine t_k ?_
   refine s_begin rfl ?_
   refine wi_block ?_
   refine ri_text (lets_round _) Zk ?_
   refine Xl rfl u38 rfl (at_ownL (vs := [rowV r ws.length]) (.tail _ (.head _)) rfl) ?_
   refine Xm ?_
   refine x_buildSliceL (cs := [Value.string x]) rfl rfl rfl u38 sz9 zr9 rfl rfl rfl ?_
   intro p10
   refine x_append (e := 9) [(p10, _), (L, _), (p2, _)] (l2 := (D, .deferred (some [])) :: Y) r (len := ws.length) (xs := ws.map Value.string) rfl rfl rfl rfl (by rw [List.append_assoc]; rfl) hr u38 ap9 rfl rfl (m := 1) (news := [Value.string x]) (fun i hi => at_ownL (vs := [Value.string x]) (.head _) (by rw [Nat.zero_add]; exact List.getElem?_eq_getElem hi)) rfl Zx (by omega) fun r' hr' => ?_
   refine x_store (cs := [rowV r ws.length]) (off := 0) (e := 38) (l2 := rowO 9 r' ++ (D, .deferred (some [])) :: Y) [(p10, _), (L, _)] rfl rfl rfl (by rw [List.append_assoc]; rfl) sz38 rfl (by show 1 ≤ 1; decide) ?_
   refine x_mem (fun _ h => h.less (List.sublist_cons_self _ _) (fun _ h => h)) ?_
   refine Ze (b_norm ?_)
   refine s_round (fun w' hm => ⟨rfl, r', ?_, ?_⟩)
   ·rw [strC_snoc, List.length_append]; exact hr'
   rw [List.length_append]; exact hm.perm perm3.symm
  rintro e w2 ⟨h1, rr, h2, h3⟩
  exact ⟨h1, rr, h2, h3⟩
 rintro D r hr
 refine sd_block ?_
 refine sd_then ?_
 refine sd_seq ?_
 refine sd_region ?_
 refine sdl_val rfl (v_load u38 rfl rfl (at_ownL (vs := [rowV r (wordsP s).length]) (.tail _ (.head _)) rfl)) ?_
 refine sdl_val rfl (v_assign rfl) ?_
 refine sdl_end ?_
 refine sd_then ?_
 refine sd_ret ?_
 exact ret1M rfl rfl (fun w' hm => ⟨r, rfl, hr, hm.less (List.sublist_cons_self _ _) (fun _ h => h)⟩)
theorem k_Collect (s : ByteArray) {Bs : Nat} (w : World) (hs : s.size ≤ 4000000) (hB : w.cell? ⟨Bs, 0, none⟩ = some (.string s)) (hL : LD w) :
  Calls Tryz.prog 83 #[Value.func (.func 112) #[] #[Pt Bs]] w fun e w' => ∃ r, e = .returned (rowV r (wordsP s).length) ∧ rowOK 1 r (wordsP s).length ((wordsP s).map Value.string) ∧ Mem w' (rowO 9 r) [(w, fun _ => True)] := by
 refine enter (vs := [Value.func (.func 112) #[] #[Pt Bs]]) Tryz.func83 rfl Tryz.ntmps83 rfl ?_
 refine Zs (Zr ?_)
 refine Xa ?_
 refine Ze (Zt (Zs (Zr ?_)))
 refine Xm ?_
 refine x_own (τ := RowS) (fun r => rowV r (wordsP s).length) (fun r => rowOK 1 r (wordsP s).length ((wordsP s).map Value.string)) (fun r => rowO 9 r) rfl rfl rfl Tryz.func111 Zk rfl (fun w1 hw1 => (k_AppSeq s w1 hs ((hw1.cell_ro (s := (w, fun _ => True)) (.head _) trivial (cell_lt (p := ⟨Bs, 0, none⟩) hB)).trans hB) (hL.later (hw1.base (by simp)))).mono fun e w2 ⟨r, h1, h2, h3⟩ => ⟨r, h1, h3.base (by simp), h2, hw1.join h3⟩) fun r hr => ?_
 refine Xa ?_
 refine Ze (Zt (w_ret ?_))
 exact ret1 rfl rfl (fun w' hm => ⟨r, rfl, hr, hm.less (.refl _) (fun _ h => by first | exact h | exact .tail _ h)⟩)
theorem k_Words (s : ByteArray) (w : World) (hs : s.size ≤ 4000000) (hL : LD w) :
  Calls Tryz.prog 45 #[.string s] w fun e w' => ∃ r, e = .returned (rowV r (wordsP s).length) ∧ rowOK 1 r (wordsP s).length ((wordsP s).map Value.string) ∧ Mem w' (rowO 9 r) [(w, fun _ => True)] := by
 refine enter (vs := [.string s]) Tryz.func45 rfl Tryz.ntmps45 rfl ?_
 refine Zs (Zr ?_)
 refine Xa ?_
 refine Ze (Zt (Zs (Zr ?_)))
 refine Xm ?_
 refine x_call (R := fun v wa wb => ∃ Bs, v = Value.func (.func 112) #[] #[Pt Bs] ∧ wb.cell? ⟨Bs, 0, none⟩ = some (.string s)) rfl rfl rfl Tryz.func84 Zk rfl (fun w1 hw1 => (k_words s w1).mono fun e w2 ⟨Bs, h1, h2, h3⟩ => ⟨_, h1, h2, Bs, rfl, h3⟩) fun v4 wa4 wb4 hm4 hl4 hR4 => ?_
 obtain ⟨Bs, rfl, hB⟩ := hR4
 refine x_own (τ := RowS) (fun r => rowV r (wordsP s).length) (fun r => rowOK 1 r (wordsP s).length ((wordsP s).map Value.string)) (fun r => rowO 9 r) rfl rfl rfl Tryz.func83 Zk rfl (fun w1 hw1 => (k_Collect s w1 hs ((hw1.cell_ro (s := (wb4, notOwn [])) (.head _) (fun q hq => by cases hq) (cell_lt (p := ⟨Bs, 0, none⟩) hB)).trans hB) (hL.later (hw1.base (by simp)))).mono fun e w2 ⟨r, h1, h2, h3⟩ => ⟨r, h1, h3.base (by simp), h2, hw1.join h3⟩) fun r hr => ?_
 refine Xa ?_
 refine Ze (Zt (w_ret ?_))
 exact ret1 rfl rfl (fun w' hm => ⟨r, rfl, hr, hm.less (.refl _) (fun _ h => by first | exact h | exact .tail _ h)⟩)
theorem k_Join {xs : List ByteArray} {r : RowS} {own : List (Nat × Obj)} {ro : List Snap} (w : World) (hm : Mem w own ro) (hin : ∀ p ∈ rowO 9 r, p ∈ own) (hr : rowOK 1 r xs.length (xs.map Value.string)) (hl : xs.length ≤ 100000000000) (hj : (joinS xs).size ≤ 100000000000) :
  Calls Tryz.prog 86 #[rowV r xs.length, .string ⟨#[32]⟩] w fun e w' => e = .returned (.string (joinS xs)) ∧ Later w w' := by
 have hL : ∀ w', Below w.heap.size w w' → Later w w' := fun w' h => ⟨h.os, h.tape, h.output, h.size, h.block⟩
 have hjl := joinS_lib xs
 cases xs with
 | nil =>
  cases r with
  | none => exact (Tryz.strings_Join_none none 0 ⟨#[32]⟩ w).mono fun e w' ⟨h1, h2⟩ => ⟨h1, by rw [h2]; exact Later.refl _⟩
  | some x =>
   obtain ⟨g, cs, c⟩ := x
   have hg : w.heap[g]? = some (.cells cs.toArray 9 (0, 0)) := hm.own_at _ (hin _ (.head _))
   exact (Tryz.strings_Join g 0 c [] ⟨#[32]⟩ w (fun j x hx => (by cases hx)) (heap_lt hg) (by decide) (Nat.zero_le _) (by decide)).mono fun e w' ⟨h1, h2⟩ => ⟨h1, hL w' h2⟩
 | cons a l =>
  obtain ⟨g, cs, c, rfl, _⟩ := hr.cell (j := 0) (by simp)
  have hg : w.heap[g]? = some (.cells cs.toArray 9 (0, 0)) := hm.own_at _ (hin _ (.head _))
  obtain ⟨_, h2, _, _, h5⟩ := hr
  have hlen : (Lib.join ((a :: l).map (·.data.toList)) (⟨#[32]⟩ : ByteArray).data.toList).length ≤ 140737488355328 := by
   rw [show (⟨#[32]⟩ : ByteArray).data.toList = [32] from rfl, hjl]
   have : (joinS (a :: l)).data.toList.length = (joinS (a :: l)).size := Array.length_toList
   omega
  refine (Tryz.strings_Join g 0 c (a :: l) ⟨#[32]⟩ w (fun j x hx => ?_) (heap_lt hg) (by omega) h2 hlen).mono fun e w' ⟨h1, h3⟩ => ⟨?_, hL w' h3⟩
  ·have hjl := (List.getElem?_eq_some_iff.1 hx).1
   rw [cell_of_row w g _ cs.toArray 9 (0, 0) hg, List.getElem?_toArray, Nat.zero_add]
   rw [Nat.mul_one] at h5
   have : (cs.take (a :: l).length)[j]? = ((a :: l).map Value.string)[j]? := by rw [h5]
   rw [List.getElem?_take, if_pos hjl, List.getElem?_map, hx] at this
   exact this
  rw [h1, show (⟨#[32]⟩ : ByteArray).data.toList = [32] from rfl, hjl, ba_toList]
theorem k_Fold (s : ByteArray) (w : World) (hs : s.size ≤ 4000000) (hL : LD w) :
  Calls Tryz.prog 49 #[.string s] w fun e w' => e = .returned (.string (foldS s)) ∧ Later w w' := by
 refine enter (vs := [.string s]) Tryz.func49 rfl Tryz.ntmps49 rfl ?_
 refine Zs (Zr ?_)
 refine Xa ?_
 refine Ze (Zt (Zs (Zr ?_)))
 refine Xm ?_
 refine x_own (τ := RowS) (fun r => rowV r (wordsP s).length) (fun r => rowOK 1 r (wordsP s).length ((wordsP s).map Value.string)) (fun r => rowO 9 r) rfl rfl rfl Tryz.func45 Zk rfl (fun w1 hw1 => (k_Words s w1 hs (hL.later (hw1.base (by simp)))).mono fun e w2 ⟨r, h1, h2, h3⟩ => ⟨r, h1, h3.base (by simp), h2, hw1.join h3⟩) fun r hr => ?_
 refine x_callv (v := Value.string (foldS s)) rfl rfl rfl Tryz.func86 Zk rfl (fun w1 hw1 => k_Join w1 hw1 (fun p h => h) hr (by have := wordsP_len s; omega) (by have := foldS_size s; unfold foldS at this; omega)) ?_
 refine Xa ?_
 refine Ze (Zt (w_ret ?_))
 refine ret1 rfl rfl (fun w' hm => ⟨?_, hm.base (by simp)⟩)
 rfl
open Go.RowKit Go.PK
theorem ap3 : (Tryz.prog.info? 3).map (fun j => (j.zero, j.size, j.bytes)) = some (some (Vi 0), 1, 8) := by kernel_rfl
def alV (o : Option HM) : Value := match o with | none => .pointer none | some x => Pt x.p
def alB (o : Option HM) : Bool := match o with | none => false | some x => decide (x.g.into = 0)
theorem k_aliveN {ps mH : Nat} {es : Array MapEntry} {ck : Nat} {Φ : Value → Option Value} {id : Int} (w : World) (h1 : w.cell? ⟨ps, 0, none⟩ = some (.map (some mH))) (h2 : w.heap[mH]? = some (.map es ck)) (hF : MapF Tryz.prog 3 es Φ) (hid : in64 id) (hlk : Φ (Vi id) = none) :
  Calls Tryz.prog 128 #[Pt ps, Vi id] w fun e w' => e = .returned (.tuple #[.pointer none, .bool false]) ∧ Later w w' := by
 refine enter (vs := [Pt ps, Vi id]) Tryz.func128 rfl Tryz.ntmps128 rfl ?_
 refine Zs (Zr ?_)
 refine Xa ?_
 refine Xa ?_
 refine Ze (Zt (Zs (Zr ?_)))
 refine Xm ?_
 refine Xn ?_
 refine Xf 0 rfl u91 rfl sz88 ?_
 refine Xl rfl u88 rfl (at_ro (.head _) trivial h1) ?_
 refine Xm ?_
 refine Xv (v := Value.tuple #[.pointer none, .bool false]) rfl (v_lookup2H u88 (Maps.int_keyed u3) zr86 rfl rfl (Maps.keyOf_int_mk u3 (wf_in hid)) (map_ro (.head _) trivial h2) hF (by rw [hlk]; rfl) (by rw [hlk]; rfl)) ?_
 refine Xm ?_
 refine Xe ?_
 refine Xb rfl (v_extract rfl rfl) fun b16 hb16 => ?_
 obtain rfl : b16 = false := hb16
 refine Xa ?_
 refine Xa ?_
 refine Ze (Zt (Zs ?_))
 refine rg_draw 11 [(true, 0), (true, 1), (true, 2), (true, 3), (true, 4), (true, 5), (true, 6), (true, 7), (true, 8), (true, 9), (true, 10)] Zk Zk ?_
 refine Xm ?_
 refine Xm ?_
 refine Xm ?_
 refine x_no rfl rfl rfl rfl rfl ?_
 refine x_no rfl rfl rfl rfl rfl ?_
 refine x_no rfl rfl rfl rfl rfl ?_
 refine x_no rfl rfl rfl rfl rfl ?_
 refine x_no rfl rfl rfl rfl rfl ?_
 refine Xv (v := .bool false) rfl (v_pick (b := false) rfl rfl) ?_
 refine Xa ?_
 refine Xa ?_
 refine Ze (Zt (w_ret ?_))
 refine ret2 rfl rfl rfl (fun w' hm => ⟨?_, hm.base (by simp)⟩)
 rfl
theorem k_aliveS {ps mH : Nat} {es : Array MapEntry} {ck : Nat} {Φ : Value → Option Value} {id : Int} (w : World) (h1 : w.cell? ⟨ps, 0, none⟩ = some (.map (some mH))) (h2 : w.heap[mH]? = some (.map es ck)) (hF : MapF Tryz.prog 3 es Φ) (hid : in64 id) {x : HM} (hlk : Φ (Vi id) = some (Pt x.p)) (hX : ∀ i v, (hmC x)[i]? = some v → w.cell? ⟨x.p, i, none⟩ = some v) :
  Calls Tryz.prog 128 #[Pt ps, Vi id] w fun e w' => e = .returned (.tuple #[Pt x.p, .bool (decide (x.g.into = 0))]) ∧ Later w w' := by
 refine enter (vs := [Pt ps, Vi id]) Tryz.func128 rfl Tryz.ntmps128 rfl ?_
 refine Zs (Zr ?_)
 refine Xa ?_
 refine Xa ?_
 refine Ze (Zt (Zs (Zr ?_)))
 refine Xm ?_
 refine Xn ?_
 refine Xf 0 rfl u91 rfl sz88 ?_
 refine Xl rfl u88 rfl (at_ro (.head _) trivial h1) ?_
 refine Xm ?_
 refine Xv (v := Value.tuple #[Pt x.p, .bool true]) rfl (v_lookup2H u88 (Maps.int_keyed u3) zr86 rfl rfl (Maps.keyOf_int_mk u3 (wf_in hid)) (map_ro (.head _) trivial h2) hF (by rw [hlk]; rfl) (by rw [hlk]; rfl)) ?_
 refine Xm ?_
 refine Xe ?_
 refine Xb rfl (v_extract rfl rfl) fun b16 hb16 => ?_
 obtain rfl : b16 = true := hb16
 refine Xa ?_
 refine Xa ?_
 refine Ze (Zt (Zs ?_))
 refine rg_draw 11 [(true, 0), (true, 1), (true, 2), (true, 3), (true, 4), (true, 5), (true, 6), (true, 7), (true, 8), (true, 9), (true, 10)] Zk Zk ?_
 refine Xm ?_
 refine Xm ?_
 refine Xm ?_
 refine x_valg rfl rfl rfl rfl rfl (v_move rfl) ?_
 refine x_valg rfl rfl rfl rfl rfl (v_nilCheck rfl) ?_
 refine x_valg rfl rfl rfl rfl rfl (v_fieldAddr u97 rfl sz3 (by decide) rfl rfl) ?_
 refine x_valg rfl rfl rfl rfl rfl (v_load u3 rfl rfl (at_ro (.head _) trivial (hX 4 _ rfl))) ?_
 refine x_boolg rfl rfl rfl rfl rfl (v_eql rfl rfl) fun b24 hb24 => ?_
 refine Xb rfl (v_and (g := true) rfl rfl) fun b25 hb25 => ?_
 refine Xa ?_
 refine Xa ?_
 refine Ze (Zt (w_ret ?_))
 refine ret2 rfl rfl rfl (fun w' hm => ⟨?_, hm.base (by simp)⟩)
 rw [hb25, hb24]; rfl
theorem k_alive {o : Option HM} {ps mH : Nat} {es : Array MapEntry} {ck : Nat} {Φ : Value → Option Value} {id : Int} (w : World) (h1 : w.cell? ⟨ps, 0, none⟩ = some (.map (some mH))) (h2 : w.heap[mH]? = some (.map es ck)) (hF : MapF Tryz.prog 3 es Φ) (hid : in64 id) (hlk : Φ (Vi id) = o.map fun x => Pt x.p) (hX : ∀ x, o = some x → ∀ i v, (hmC x)[i]? = some v → w.cell? ⟨x.p, i, none⟩ = some v) :
  Calls Tryz.prog 128 #[Pt ps, Vi id] w fun e w' => e = .returned (.tuple #[alV o, .bool (alB o)]) ∧ Later w w' := by
 cases o with
 | none => exact k_aliveN w h1 h2 hF hid hlk
 | some x => exact k_aliveS w h1 h2 hF hid hlk (hX x rfl)
theorem k_createN {ps mH : Nat} {es : Array MapEntry} {ck : Nat} {Φ : Value → Option Value} {f : FD} (w : World) (h1 : w.cell? ⟨ps, 0, none⟩ = some (.map (some mH))) (h2 : w.heap[mH]? = some (.map es ck)) (hF : MapF Tryz.prog 3 es Φ) (hid : in64 f.hd) {q : Nat} (hlk : Φ (Vi f.hd) = some (Pt q)) :
  Calls Tryz.prog 105 #[Pt ps, Value.agg f.cells.toArray] w fun e w' => e = .returned (.bool (false)) ∧ Later w w' := by
 refine enter (vs := [Pt ps, Value.agg f.cells.toArray]) Tryz.func105 rfl Tryz.ntmps105 rfl ?_
 refine Zs (Zr ?_)
 refine x_box rfl rfl rfl rfl ?_
 intro p3
 refine Xa ?_
 refine Ze (Zt (Zs (Zs ?_)))
 refine rg_draw 8 [(true, 0), (true, 1), (true, 2), (true, 3), (true, 4), (true, 5), (true, 6), (true, 7)] Zk Zk ?_
 refine Xm ?_
 refine Xn ?_
 refine Xf 0 rfl u91 rfl sz88 ?_
 refine Xl rfl u88 rfl (at_ro (.head _) trivial h1) ?_
 refine Xf 3 rfl u28 rfl sz3 ?_
 refine Xv rfl (Vl u3 rfl) ?_
 refine Xv (v := Pt q) rfl (v_lookupH u88 (Maps.int_keyed u3) zr86 rfl rfl (Maps.keyOf_int_mk u3 (wf_in hid)) (map_ro (.head _) trivial h2) hF (by rw [hlk]; rfl)) ?_
 refine Xv (v := Value.bool true) rfl (v_nep (p := some ⟨q, 0, none⟩) u86 rfl rfl) ?_
 refine Ze (Zt ?_)
 refine w_cond rfl (fun hc12 => ?_) fun hc12 => ?_
 ·skip
  refine Zs (Zr ?_)
  refine Xa ?_
  refine Ze (Zt (w_ret (t_ret ?_)))
  refine ret1 rfl rfl (fun w' hm => ⟨?_, hm.base (by simp)⟩)
  rfl
 cases hc12
set_option maxHeartbeats 1000000 in
theorem k_createA {ps mH : Nat} {es : Array MapEntry} {ck : Nat} {Φ : Value → Option Value} {f : FD} {rf nv av : Value} {L : List (Nat × Obj)} {ro : List Snap} {w : World} (hm : Mem w ((Bk ps [Value.map (some mH), rf, nv, av] 91) :: (mH, Obj.map es ck) :: L) ro) (hC : MapC Tryz.prog 3 es ck (Φ)) (hid : in64 f.hd) (hlk : Φ (Vi f.hd) = none) (hs : f.txt.size ≤ 4000000) {w0 : World} (hro : (w0, fun _ => True) ∈ ro) (hL : LD w0) :
  Calls Tryz.prog 105 #[Pt ps, Value.agg f.cells.toArray] w fun e w' => e = .returned (.bool true) ∧ ∃ z : Array MapEntry × Nat × Nat, MapC Tryz.prog 3 z.1 z.2.1 (fupd Φ (Vi f.hd) (Pt z.2.2)) ∧ Mem w' ((Bk z.2.2 (hmC (HM.mk ⟨f.hd, f.txt, [], [], 0⟩ 0 none none)) 97) :: (Bk ps [Value.map (some mH), rf, nv, av] 91) :: (mH, Obj.map z.1 z.2.1) :: L) ro := by
 refine enter_in hm (vs := [Pt ps, Value.agg f.cells.toArray]) Tryz.func105 rfl Tryz.ntmps105 rfl ?_
 refine Zs (Zr ?_)
 refine x_box rfl rfl rfl rfl ?_
 intro p3
 refine Xa ?_
 refine Ze (Zt (Zs (Zs ?_)))
 refine rg_draw 8 [(true, 0), (true, 1), (true, 2), (true, 3), (true, 4), (true, 5), (true, 6), (true, 7)] Zk Zk ?_
 refine Xm ?_
 refine Xn ?_
 refine Xf 0 rfl u91 rfl sz88 ?_
 refine Xl rfl u88 rfl (at_ownL (vs := [Value.map (some mH), rf, nv, av]) (.tail _ (.head _)) rfl) ?_
 refine Xf 3 rfl u28 rfl sz3 ?_
 refine Xl rfl u3 rfl (at_ownL (vs := f.cells) (.head _) rfl) ?_
 refine Xv (v := Value.pointer none) rfl (v_lookupH u88 (Maps.int_keyed u3) zr86 rfl rfl (Maps.keyOf_int_mk u3 (wf_in hid)) (map_own (.tail _ (.tail _ (.head _)))) hC.f (by rw [hlk]; rfl)) ?_
 refine Xv (v := Value.bool false) rfl (v_nep (p := none) u86 rfl rfl) ?_
 refine Ze (Zt ?_)
 refine w_cond rfl (fun hc12 => ?_) fun hc12 => ?_
 ·cases hc12
 skip
 refine w_skip (Zt (Zs ?_))
 refine rg_draw 13 [(true, 0), (true, 1), (true, 2), (true, 3), (true, 4), (true, 5), (true, 6), (true, 7), (true, 8), (true, 9), (true, 10), (true, 11), (false, 12)] Zk Zk ?_
 refine Xm ?_
 refine Xn ?_
 refine Xf 0 rfl u91 rfl sz88 ?_
 refine Xl rfl u88 rfl (at_ownL (vs := [Value.map (some mH), rf, nv, av]) (.tail _ (.head _)) rfl) ?_
 refine Xf 3 rfl u28 rfl sz3 ?_
 refine Xl rfl u3 rfl (at_ownL (vs := f.cells) (.head _) rfl) ?_
 refine Xf 5 rfl u28 rfl sz9 ?_
 refine Xl rfl u9 rfl (at_ownL (vs := f.cells) (.head _) rfl) ?_
 refine Xf 5 rfl u28 rfl sz9 ?_
 refine Xl rfl u9 rfl (at_ownL (vs := f.cells) (.head _) rfl) ?_
 refine x_callv rfl rfl rfl Tryz.func49 Zk rfl (fun w1 hw1 => k_Fold f.txt w1 hs (hL.later (hw1.base hro))) ?_
 refine Xv (v := Value.agg (hmC (HM.mk ⟨f.hd, f.txt, [], [], 0⟩ 0 none none)).toArray) rfl (v_buildL (cs := hmC (HM.mk ⟨f.hd, f.txt, [], [], 0⟩ 0 none none)) (places := [(0, 1), (1, 1), (2, 1), (3, 1), (4, 1)]) u97 zr97 Zk rfl rfl) ?_
 refine x_box rfl rfl rfl rfl ?_
 intro p25
 refine x_mapUpdateC [(p25, _), (p3, _), (ps, _)] rfl rfl rfl rfl u88 (Maps.int_keyed u3) (Maps.keyOf_int_mk u3 (wf_in hid)) rfl hC ?_
 intro es16 clock16 hmf16
 refine Ze (Zt (Zs (Zr ?_)))
 refine Xa ?_
 refine Ze (Zt (w_ret ?_))
 exact ret1 rfl rfl (fun w' hm' => ⟨rfl, (es16, clock16, p25), hmf16, hm'.less ((List.sublist_cons_self _ _).cons_cons _) (fun _ h => h)⟩)
theorem k_renameN {ps : Nat} {f : FD} {v : Value} (w : World) (hal : ∀ w1, Later w w1 → Calls Tryz.prog 128 #[Pt ps, Vi f.hd] w1 fun e w2 => e = .returned (.tuple #[v, .bool false]) ∧ Later w1 w2) :
  Calls Tryz.prog 106 #[Pt ps, Value.agg f.cells.toArray] w fun e w' => e = .returned (.bool (false)) ∧ Later w w' := by
 refine enter (vs := [Pt ps, Value.agg f.cells.toArray]) Tryz.func106 rfl Tryz.ntmps106 rfl ?_
 refine Zs (Zr ?_)
 refine x_box rfl rfl rfl rfl ?_
 intro p3
 refine Xa ?_
 refine Ze (Zt (Zs (Zr ?_)))
 refine Xm ?_
 refine Xf 3 rfl u28 rfl sz3 ?_
 refine Xl rfl u3 rfl (at_ownL (vs := f.cells) (.head _) rfl) ?_
 refine x_callv rfl rfl rfl Tryz.func128 Zk rfl (fun w1 hw1 => hal w1 (hw1.base (by simp))) ?_
 refine Xm ?_
 refine Xe ?_
 refine Xb rfl (v_extract rfl rfl) fun b13 hb13 => ?_
 obtain rfl : b13 = false := hb13
 refine Xa ?_
 refine Xa ?_
 refine Ze (Zt (Zs (Zs (Zr ?_))))
 refine Xm ?_
 refine Ze (Zt ?_)
 refine w_cond rfl (fun hc14 => ?_) fun hc14 => ?_
 ·cases hc14
 skip
 refine w_skip (Zt (Zs (Zr ?_)))
 refine Xm ?_
 refine Xa ?_
 refine Ze (Zt (w_ret ?_))
 refine ret1 rfl rfl (fun w' hm => ⟨?_, hm.base (by simp)⟩)
 rfl
theorem k_seeN {ps : Nat} {f : FD} {v : Value} (w : World) (hal : ∀ w1, Later w w1 → Calls Tryz.prog 128 #[Pt ps, Vi f.hd] w1 fun e w2 => e = .returned (.tuple #[v, .bool false]) ∧ Later w1 w2) :
  Calls Tryz.prog 107 #[Pt ps, Value.agg f.cells.toArray] w fun e w' => e = .returned (.bool (false)) ∧ Later w w' := by
 refine enter (vs := [Pt ps, Value.agg f.cells.toArray]) Tryz.func107 rfl Tryz.ntmps107 rfl ?_
 refine Zs (Zr ?_)
 refine x_box rfl rfl rfl rfl ?_
 intro p3
 refine Xa ?_
 refine Ze (Zt (Zs (Zr ?_)))
 refine Xm ?_
 refine Xf 3 rfl u28 rfl sz3 ?_
 refine Xl rfl u3 rfl (at_ownL (vs := f.cells) (.head _) rfl) ?_
 refine x_callv rfl rfl rfl Tryz.func128 Zk rfl (fun w1 hw1 => hal w1 (hw1.base (by simp))) ?_
 refine Xm ?_
 refine Xe ?_
 refine Xb rfl (v_extract rfl rfl) fun b13 hb13 => ?_
 obtain rfl : b13 = false := hb13
 refine Xa ?_
 refine Xa ?_
 refine Ze (Zt (Zs (Zs (Zr ?_))))
 refine Xm ?_
 refine Ze (Zt ?_)
 refine w_cond rfl (fun hc14 => ?_) fun hc14 => ?_
 ·cases hc14
 skip
 refine w_skip (Zt (Zs (Zr ?_)))
 refine Xm ?_
 refine Xa ?_
 refine Ze (Zt (w_ret ?_))
 refine ret1 rfl rfl (fun w' hm => ⟨?_, hm.base (by simp)⟩)
 rfl
set_option maxHeartbeats 1000000 in
theorem k_renameA {ps : Nat} {f : FD} {x : HM} {l1 L : List (Nat × Obj)} {ro : List Snap} {w : World} (hm : Mem w (l1 ++ (Bk x.p (hmC x) 97) :: (rowO 9 x.O ++ (rowO 95 x.S ++ L))) ro) (hok : hmOK x) (hal : ∀ w1, Mem w1 (l1 ++ (Bk x.p (hmC x) 97) :: (rowO 9 x.O ++ (rowO 95 x.S ++ L))) ro → Calls Tryz.prog 128 #[Pt ps, Vi f.hd] w1 fun e w2 => e = .returned (.tuple #[Pt x.p, .bool true]) ∧ Later w1 w2) (hs : f.txt.size ≤ 4000000) (hlen : x.g.oth.length ≤ 10000000 ∧ x.g.spl.length ≤ 10000000) {w0 : World} (hro : (w0, fun _ => True) ∈ ro) (hL : LD w0) :
  Calls Tryz.prog 106 #[Pt ps, Value.agg f.cells.toArray] w fun e w' => e = .returned (.bool true) ∧ ∃ y : HM, (hmOK y ∧ y.p = x.p ∧ y.g = { x.g with name := f.txt, oth := x.g.oth ++ [x.g.name] }) ∧ Mem w' (l1 ++ (Bk x.p (hmC y) 97) :: (rowO 9 y.O ++ (rowO 95 y.S ++ L))) ro := by
 refine enter_in hm (vs := [Pt ps, Value.agg f.cells.toArray]) Tryz.func106 rfl Tryz.ntmps106 rfl ?_
 refine Zs (Zr ?_)
 refine x_box rfl rfl rfl rfl ?_
 intro p3
 refine Xa ?_
 refine Ze (Zt (Zs (Zr ?_)))
 refine Xm ?_
 refine Xf 3 rfl u28 rfl sz3 ?_
 refine Xl rfl u3 rfl (at_ownL (vs := f.cells) (.head _) rfl) ?_
 refine x_callv rfl rfl rfl Tryz.func128 Zk rfl (fun w1 hw1 => hal w1 (hw1.less (List.sublist_cons_self _ _) (fun _ h => h))) ?_
 refine Xm ?_
 refine Xe ?_
 refine Xb rfl (v_extract rfl rfl) fun b13 hb13 => ?_
 obtain rfl : b13 = true := hb13
 refine Xa ?_
 refine Xa ?_
 refine Ze (Zt (Zs (Zs (Zr ?_))))
 refine Xm ?_
 refine Ze (Zt ?_)
 refine w_cond rfl (fun hc14 => ?_) fun hc14 => ?_
 ·skip
  refine Zs ?_
  refine rg_inv ([(Bk x.p (hmC x) 97)]) 13 (.flt 0 (.flt 1 (.flt 2 (.flt 3 (.flt 4 (.flt 5 (.flt 6 (.flt 7 (.flt 8 (.gr 9 (.gr 10 (.flt 11 (.flt 12 .done)) .nil) .nil)))))))))) (List.singleton_sublist.2 (by simp)) Zk Zk ?_
  refine j_val rfl rfl (v_move rfl) ?_
  refine j_val rfl rfl (v_move rfl) ?_
  refine j_val rfl rfl (v_nilCheck rfl) ?_
  refine j_val rfl rfl (v_fieldAddr u97 rfl sz38 (by decide) rfl rfl) ?_
  refine j_val rfl rfl (v_load u38 rfl rfl (at_ownL (vs := hmC x) (.head _) rfl)) ?_
  refine j_val rfl rfl (v_move rfl) ?_
  refine j_val rfl rfl (v_nilCheck rfl) ?_
  refine j_val rfl rfl (v_fieldAddr u97 rfl sz9 (by decide) rfl rfl) ?_
  refine j_val rfl rfl (v_load u9 rfl rfl (at_ownL (vs := hmC x) (.head _) rfl)) ?_
  refine j_gr ?_ j_nil
  refine x_buildSliceL (cs := [Value.string (foldS x.g.name)]) rfl rfl rfl u38 sz9 zr9 rfl rfl rfl ?_
  intro p24
  refine Ze ?_
  refine j_end (List.singleton_sublist.2 (by simp)) ?_
  refine j_gr ?_ j_nil
  refine x_append (e := 9) ((Bk p24 [Value.string (foldS x.g.name)] 9) :: (Bk p3 f.cells 28) :: (l1 ++ [(Bk x.p (hmC x) 97)])) (l2 := rowO 95 x.S ++ L) x.O (len := x.g.oth.length) (xs := othC x.g.oth) rfl rfl rfl rfl (by simp; rfl) hok.1 u38 ap9 rfl rfl (m := 1) (news := [Value.string (foldS x.g.name)]) (fun i hi => at_ownL (vs := [Value.string (foldS x.g.name)]) (.head _) (by rw [Nat.zero_add]; exact List.getElem?_eq_getElem hi)) rfl Zx (by omega) fun R' hR' => ?_
  refine Ze ?_
  refine j_end (List.singleton_sublist.2 (by simp)) ?_
  refine j_val rfl rfl (v_nilCheck rfl) ?_
  refine j_val rfl rfl (v_fieldAddr u97 rfl sz38 (by decide) rfl rfl) ?_
  refine j_done ?_
  refine x_store (cs := hmC x) (off := 2) (e := 97) (l2 := rowO 9 R' ++ (rowO 95 x.S ++ L)) ((Bk p24 [Value.string (foldS x.g.name)] 9) :: (Bk p3 f.cells 28) :: l1) rfl rfl rfl (by simp) sz38 rfl (by show 2 + 1 ≤ 5; decide) ?_
  refine x_mem (fun _ h => h.less (List.sublist_cons_self _ _) (fun _ h => h)) ?_
  refine Ze (Zt ?_)
  refine x_memW (own' := (Bk p3 f.cells 28) :: (l1 ++ (Bk x.p ([Value.string x.g.name, Value.string (foldS x.g.name), rowV R' (x.g.oth.length + 1), rowV x.S x.g.spl.length, Vi x.g.into]) 97) :: (rowO 9 R' ++ (rowO 95 x.S ++ L)))) (ro' := ro) (fun w1 h => h) ?_
  refine rg_inv ([(Bk p3 f.cells 28)]) 12 (.flt 0 (.flt 1 (.flt 2 (.flt 3 (.flt 4 (.flt 5 (.flt 6 (.flt 7 (.flt 8 (.gr 9 (.flt 10 (.flt 11 .done)) .nil)))))))))) (List.singleton_sublist.2 (by simp)) Zk Zk ?_
  refine j_val rfl rfl (v_move rfl) ?_
  refine j_val rfl rfl (v_move rfl) ?_
  refine j_val rfl rfl (v_fieldAddr (off' := 5) u28 rfl sz9 (by decide) rfl rfl) ?_
  refine j_val rfl rfl (v_load u9 rfl rfl (at_ownL (vs := f.cells) (.head _) rfl)) ?_
  refine j_val rfl rfl (v_fieldAddr (off' := 5) u28 rfl sz9 (by decide) rfl rfl) ?_
  refine j_val rfl rfl (v_load u9 rfl rfl (at_ownL (vs := f.cells) (.head _) rfl)) ?_
  refine j_callv rfl rfl Tryz.func49 Zk rfl (fun w1 hw1 => k_Fold f.txt w1 hs (hL.later (hw1.base hro))) ?_
  refine j_val rfl rfl (v_nilCheck rfl) ?_
  refine j_val rfl rfl (v_fieldAddr u97 rfl sz9 (by decide) rfl rfl) ?_
  refine j_gr ?_ j_nil
  refine x_store (cs := [Value.string x.g.name, Value.string (foldS x.g.name), rowV R' (x.g.oth.length + 1), rowV x.S x.g.spl.length, Vi x.g.into]) (off := 0) (e := 97) (l2 := (rowO 9 R' ++ (rowO 95 x.S ++ L))) ((Bk p3 f.cells 28) :: l1) rfl rfl rfl rfl sz9 rfl (by show 0 + 1 ≤ 5; decide) ?_
  refine Ze ?_
  refine j_end (List.singleton_sublist.2 (by simp)) ?_
  refine j_val rfl rfl (v_nilCheck rfl) ?_
  refine j_val rfl rfl (v_fieldAddr u97 rfl sz9 (by decide) rfl rfl) ?_
  refine j_done ?_
  refine x_store (cs := [Value.string f.txt, Value.string (foldS x.g.name), rowV R' (x.g.oth.length + 1), rowV x.S x.g.spl.length, Vi x.g.into]) (off := 1) (e := 97) (l2 := (rowO 9 R' ++ (rowO 95 x.S ++ L))) ((Bk p3 f.cells 28) :: l1) rfl rfl rfl rfl sz9 rfl (by show 1 + 1 ≤ 5; decide) ?_
  refine Ze (Zt (Zs (Zr ?_)))
  refine Xm ?_
  refine Xa ?_
  refine Ze (Zt (w_ret ?_))
  exact ret1 rfl rfl (fun w' hm' => ⟨rfl, ⟨{ x.g with name := f.txt, oth := x.g.oth ++ [x.g.name] }, x.p, R', x.S⟩, ⟨⟨by dsimp only; unfold othC at hR' ⊢; rw [List.length_append, List.map_append]; exact hR', hok.2⟩, rfl, rfl⟩, (hm'.less (List.sublist_cons_self _ _) (fun _ h => h)).to (by simp [hmC]; rfl)⟩)
 cases hc14
open Go.RowKit Go.PK
structure RdS (w : World) (ps mH : Nat) (es : Array MapEntry) (ck : Nat) (hs : List HM) : Prop where
  st : w.cell? ⟨ps, 0, none⟩ = some (.map (some mH))
  mp : w.heap[mH]? = some (.map es ck)
  mf : MapF Tryz.prog 3 es (hmM hs)
  hd : ∀ x ∈ hs, w.heap[x.p]? = some (.cells (hmC x).toArray 97 (0, 0))
  rows : ∀ x ∈ hs, ∀ q ∈ rowO 9 x.O ++ rowO 95 x.S, w.heap[q.1]? = some q.2
  ok : ∀ x ∈ hs, hmOK x
  ids : ∀ x ∈ hs, in64 x.g.id
theorem RdS.later {w w' : World} {ps mH : Nat} {es : Array MapEntry} {ck : Nat} {hs : List HM} (h : RdS w ps mH es ck hs) (hl : Later w w') : RdS w' ps mH es ck hs where
 st := (World.cell?_of_block (a := ⟨ps, 0, none⟩) (hl.block ps (cell_lt h.st))).trans h.st
 mp := (hl.block mH (heap_lt h.mp)).trans h.mp
 mf := h.mf
 hd := fun x hx => (hl.block _ (heap_lt (h.hd x hx))).trans (h.hd x hx)
 rows := fun x hx q hq => (hl.block _ (heap_lt (h.rows x hx q hq))).trans (h.rows x hx q hq)
 ok := h.ok
 ids := h.ids
theorem RdS.cell {w : World} {ps mH : Nat} {es : Array MapEntry} {ck : Nat} {hs : List HM} (h : RdS w ps mH es ck hs) {x : HM} (hx : x ∈ hs) (i : Nat) (v : Value) (hv : (hmC x)[i]? = some v) : w.cell? ⟨x.p, i, none⟩ = some v := by
 rw [cell_of_row w x.p i _ 97 (0, 0) (h.hd x hx), List.getElem?_toArray]; exact hv
theorem edges_in {hs : List HM} (ha : Acy (gs8 hs)) (hi : ∀ x ∈ hs, in64 x.g.id) {x : HM} (hx : x ∈ hs) : ∀ c ∈ edges x.g, in64 c ∧ ∃ y ∈ hs, lkM8 hs c = some y ∧ y.g.id = c := fun c hc => by
 have h1 := ha.shut x.g (List.mem_map_of_mem hx) c hc
 rw [lkM8_g] at h1
 cases hq : lkM8 hs c with
 | none => rw [hq] at h1; cases h1
 | some y =>
  obtain ⟨a, d, h2, h3, _⟩ := lkM8_split hq
  have hy : y ∈ hs := by rw [h2]; simp
  exact ⟨h3 ▸ hi y hy, y, hy, rfl, h3⟩
set_option maxHeartbeats 1000000 in
theorem k_next {x : HM} (w : World) (hX : ∀ i v, (hmC x)[i]? = some v → w.cell? ⟨x.p, i, none⟩ = some v) (hS : ∀ q ∈ rowO 95 x.S, w.heap[q.1]? = some q.2) (hok : hmOK x) (hin : ∀ c ∈ edges x.g, in64 c) (hlen : x.g.spl.length ≤ 10000000) :
  Calls Tryz.prog 159 #[Pt x.p] w fun e w' => ∃ r, e = .returned (rowV r (edges x.g).length) ∧ rowOK 1 r (edges x.g).length ((edges x.g).map (Value.int .i64)) ∧ Mem w' (rowO 3 r) [(w, fun _ => True)] := by
 refine enter (vs := [Pt x.p]) Tryz.func159 rfl Tryz.ntmps159 rfl ?_
 refine Zs (Zr ?_)
 refine Xa ?_
 refine Ze (Zt (Zs (Zs (Zr ?_))))
 refine Xm ?_
 refine Xn ?_
 refine Xf 4 rfl u97 rfl sz3 ?_
 refine Xl rfl u3 rfl (at_ro (.head _) trivial (hX 4 _ rfl)) ?_
 refine Xb rfl (v_gtr rfl rfl) fun b10 hb10 => ?_
 refine Ze (Zt ?_)
 refine w_cond rfl (fun hc10 => ?_) fun hc10 => ?_
 ·simp only [hb10, Qz, ne_eq] at hc10
  have he : edges x.g = [x.g.into] := by unfold edges; rw [if_pos (by omega)]
  refine Zs (Zr ?_)
  refine Xm ?_
  refine Xn ?_
  refine Xf 4 rfl u97 rfl sz3 ?_
  refine Xl rfl u3 rfl (at_ro (.head _) trivial (hX 4 _ rfl)) ?_
  refine x_buildSliceL (cs := [Vi x.g.into]) rfl rfl rfl u25 sz3 zr3 rfl rfl rfl ?_
  intro p15
  refine Xa ?_
  refine Ze (Zt (w_ret (t_ret ?_)))
  exact ret1 rfl rfl (fun w' hm => ⟨some (p15, [Vi x.g.into], 1), by rw [he]; rfl, by rw [he]; exact rowOK_lit rfl (by decide), hm⟩)
 simp only [hb10, Qz, ne_eq] at hc10
 have he : edges x.g = x.g.spl.map (·.2) := by unfold edges; rw [if_neg (by omega)]
 refine w_skip (Zt (Zs (Zr ?_)))
 refine Xa ?_
 refine Ze (Zt (Zs (Zs (Zr ?_))))
 refine Xm ?_
 refine Xn ?_
 refine Xf 3 rfl u97 rfl sz93 ?_
 refine Xl rfl u93 rfl (at_ro (.head _) trivial (hX 3 _ rfl)) ?_
 refine Xv rfl (v_len_slice u93 rfl) ?_
 refine Xm ?_
 refine Ze (Zt (w_block ?_))
 refine w_loop (σ := Nat × RowS) (fun z => z.1 ≤ x.g.spl.length ∧ rowOK 1 z.2 z.1 (((x.g.spl.map (·.2)).take z.1).map (Value.int .i64))) (fun z => [(3, rowV z.2 z.1), (19, rowV x.S x.g.spl.length), (20, Vi (x.g.spl.length : Nat)), (21, Vi (z.1 : Nat))]) (fun z => rowO 3 z.2) (fun z => [(w, fun _ => True)]) (fun z => x.g.spl.length - z.1) ((0, none)) (⟨Nat.zero_le _, rowOK_nil⟩) (l_start Zu (fun _ h => h)) ?_
 rintro ⟨k, r⟩ ⟨hk, hr⟩
 refine w_state ([(3, rowV r k), (19, rowV x.S x.g.spl.length), (20, Vi (x.g.spl.length : Nat)), (21, Vi (k : Nat))]) (rowO 3 r) ([(w, fun _ => True)]) ?_
 dsimp only at hk hr
 refine Zs (Zr ?_)
 refine Xb rfl (v_lss rfl rfl) fun b22 hb22 => ?_
 refine Ze (Zt (Zs ?_))
 refine w_cond rfl (fun hc22 => ?_) fun hc22 => ?_
 ·simp only [hb22, Qz, ne_eq] at hc22
  have hkl : k < x.g.spl.length := by omega
  obtain ⟨g, cs, c, hSr, _⟩ := hok.2.cell (j := 0) (by rw [flatMap_two]; omega)
  have hcell : ∀ i, i < 2 → w.cell? ⟨g, k * 2 + i, none⟩ = (splC x.g.spl[k])[i]? := fun i hi => by
   have hg := hS (g, .cells cs.toArray 95 (0, 0)) (by rw [hSr]; exact .head _)
   have h5 := hok.2
   rw [hSr] at h5
   obtain ⟨_, _, _, _, h6⟩ := h5
   dsimp only at h6
   rw [cell_of_row w g _ _ 95 (0, 0) hg, List.getElem?_toArray, ← List.getElem?_take_of_lt (show k * 2 + i < x.g.spl.length * 2 by omega)]
   exact (congrArg (fun l => l[k * 2 + i]?) h6).trans (spl_at hkl hi)
  refine w_skip (Zt (Zs (w_block (Zs (Zr ?_)))))
  refine Xv rfl (v_indexAddr u93 sz95 (congrArg (fun R => some (rowV R x.g.spl.length)) hSr) rfl (by omega) rfl) ?_
  refine Xv rfl (v_loadN (vs := splC x.g.spl[k]) u95 rfl sz95 rfl (fun i hi => at_ro (.head _) trivial (by rw [Nat.zero_add]; exact (hcell i hi).trans (List.getElem?_eq_getElem hi)))) ?_
  refine x_alloc rfl rfl rfl zr95 ?_
  intro p5
  refine x_store0 [] rfl rfl rfl rfl sz95 rfl rfl ?_
  refine Ze (Zt (Zr ?_))
  refine Xm ?_
  refine Xf 1 rfl u95 rfl sz3 ?_
  refine Xv rfl (Vl u3 rfl) ?_
  refine x_buildSliceL (cs := [Vi x.g.spl[k].2]) rfl rfl rfl u25 sz3 zr3 rfl rfl rfl ?_
  intro p28
  refine x_append (e := 3) [(p28, _), (p5, _)] (l2 := []) r (len := k) (xs := ((x.g.spl.map (·.2)).take k).map (Value.int .i64)) rfl rfl rfl rfl (by rw [List.append_nil]; rfl) hr u25 ap3 rfl rfl (m := 1) (news := [Vi x.g.spl[k].2]) (fun i hi => at_ownL (vs := [Vi x.g.spl[k].2]) (.head _) (by rw [Nat.zero_add]; exact List.getElem?_eq_getElem hi)) rfl Zx (by omega) fun r' hr' => ?_
  refine Xa ?_
  refine Ze (b_norm (Zt (Zr ?_)))
  refine Xv rfl (v_addi rfl rfl rfl Zo) ?_
  refine Xm ?_
  refine Ze ?_
  exact l_norm (k + 1, r') ⟨hkl, by dsimp only; rw [List.take_succ_eq_append_getElem (by rw [List.length_map]; exact hkl), List.map_append, List.getElem_map]; exact hr'⟩ (by simp only; omega) Zu (fun _ h => (h.less (List.sublist_append_left _ _) (fun _ h => h)).less (((List.sublist_cons_self _ _).trans (List.sublist_cons_self _ _))) (fun _ h => h))
 simp only [hb22, Qz, ne_eq] at hc22
 obtain rfl : k = x.g.spl.length := by omega
 rw [List.take_of_length_le (by rw [List.length_map]; exact Nat.le_refl _)] at hr
 refine w_exit ?_
 refine t_exit ?_
 refine t_exit ?_
 refine b_hit ?_
 refine Zt (Zs (Zr ?_))
 refine Xm ?_
 refine Xa ?_
 refine Ze (Zt (w_ret ?_))
 exact ret1 rfl rfl (fun w' hm => ⟨r, by rw [he, List.length_map], by rw [he, List.length_map]; exact hr, hm⟩)
open Go.RowKit Go.PK
set_option maxHeartbeats 1000000 in
theorem k_IFi {hs : List HM} {t : Int} {mS p8 p7 p5 p3 ps : Nat} {w ws : World} {ro : List Snap} {cs : List Int} {v : Value} {D dom : Nat → Prop} {es : Array MapEntry} {ck : Nat} {f1 : Value → Option Value} (hm : Mem w ((mS, Obj.map es ck) :: (Bk p8 [Value.func (.func 157) #[] #[Pt p5, Pt p7, Pt p3, Pt p8]] 157) :: (Bk p7 [Value.map (some mS)] 208) :: (Bk p5 [Vi t] 3) :: [(Bk p3 [Pt ps] 76)]) ro) (hM : MapF Tryz.prog 3 es f1) (hcs : sliceRd tyI D ws v cs) (hsn : (ws, dom) ∈ ro) (hD : ∀ b, D b → dom b) (hV : ∀ j (h : j < cs.length) (w1 : World) (es : Array MapEntry) (ck : Nat) (f : Value → Option Value), MapF Tryz.prog 3 es f → seenTo (gs8 hs) t f1 f → Mem w1 ((mS, Obj.map es ck) :: (Bk p8 [Value.func (.func 157) #[] #[Pt p5, Pt p7, Pt p3, Pt p8]] 157) :: (Bk p7 [Value.map (some mS)] 208) :: (Bk p5 [Vi t] 3) :: [(Bk p3 [Pt ps] 76)]) ro → Calls Tryz.prog 157 #[Vi cs[j], Pt p5, Pt p7, Pt p3, Pt p8] w1 fun e w2 => e = .returned (.bool (rchB (gs8 hs) t cs[j])) ∧ ∃ z : Array MapEntry × Nat × (Value → Option Value), (MapF Tryz.prog 3 z.1 z.2.2 ∧ (rchB (gs8 hs) t cs[j] = false → seenTo (gs8 hs) t f z.2.2)) ∧ Mem w2 ((mS, Obj.map z.1 z.2.1) :: (Bk p8 [Value.func (.func 157) #[] #[Pt p5, Pt p7, Pt p3, Pt p8]] 157) :: (Bk p7 [Value.map (some mS)] 208) :: (Bk p5 [Vi t] 3) :: [(Bk p3 [Pt ps] 76)]) ro) :
  Calls Tryz.prog 165 #[v, Value.func (.func 157) #[] #[Pt p5, Pt p7, Pt p3, Pt p8]] w fun e w' => e = .returned (Vi (fidx (fun c => rchB (gs8 hs) t c) cs)) ∧ ∃ z : Array MapEntry × Nat × (Value → Option Value), (MapF Tryz.prog 3 z.1 z.2.2 ∧ (cs.any (fun c => rchB (gs8 hs) t c) = false → seenTo (gs8 hs) t f1 z.2.2)) ∧ Mem w' ((mS, Obj.map z.1 z.2.1) :: (Bk p8 [Value.func (.func 157) #[] #[Pt p5, Pt p7, Pt p3, Pt p8]] 157) :: (Bk p7 [Value.map (some mS)] 208) :: (Bk p5 [Vi t] 3) :: [(Bk p3 [Pt ps] 76)]) ro := by
 obtain ⟨A0, c0, rfl, hlc, hmx, -⟩ := id hcs
 refine enter_in hm (vs := [Value.slice A0 cs.length c0, Value.func (.func 157) #[] #[Pt p5, Pt p7, Pt p3, Pt p8]]) Tryz.func165 rfl Tryz.ntmps165 rfl ?_
 refine Zs (Zr ?_)
 refine Xa ?_
 refine Ze (Zt (Zs (Zs (Zr ?_))))
 refine Xm ?_
 refine Xv rfl (v_len_slice u25 rfl) ?_
 refine Xm ?_
 refine Ze (Zt (w_block ?_))
 refine w_loop (σ := Nat × Array MapEntry × Nat × (Value → Option Value)) (fun z => z.1 ≤ cs.length ∧ (∀ j (h : j < cs.length), j < z.1 → rchB (gs8 hs) t cs[j] = false) ∧ MapF Tryz.prog 3 z.2.1 z.2.2.2 ∧ seenTo (gs8 hs) t f1 z.2.2.2) (fun z => [(0, Value.slice A0 cs.length c0), (1, Value.func (.func 157) #[] #[Pt p5, Pt p7, Pt p3, Pt p8]), (7, Vi (cs.length : Nat)), (8, Vi (z.1 : Nat))]) (fun z => (mS, Obj.map z.2.1 z.2.2.1) :: (Bk p8 [Value.func (.func 157) #[] #[Pt p5, Pt p7, Pt p3, Pt p8]] 157) :: (Bk p7 [Value.map (some mS)] 208) :: (Bk p5 [Vi t] 3) :: [(Bk p3 [Pt ps] 76)]) (fun z => ro) (fun z => cs.length - z.1) ((0, es, ck, f1)) (⟨Nat.zero_le _, (fun j h hj => absurd hj (Nat.not_lt_zero _)), hM, seenTo.refl⟩) (l_start Zu (fun _ h => h)) ?_
 rintro ⟨k, es, ck, f⟩ ⟨hk, hno, hM, hst⟩
 refine w_state ([(0, Value.slice A0 cs.length c0), (1, Value.func (.func 157) #[] #[Pt p5, Pt p7, Pt p3, Pt p8]), (7, Vi (cs.length : Nat)), (8, Vi (k : Nat))]) ((mS, Obj.map es ck) :: (Bk p8 [Value.func (.func 157) #[] #[Pt p5, Pt p7, Pt p3, Pt p8]] 157) :: (Bk p7 [Value.map (some mS)] 208) :: (Bk p5 [Vi t] 3) :: [(Bk p3 [Pt ps] 76)]) (ro) ?_
 dsimp only at hk hno hM hst
 refine Zs (Zr ?_)
 refine Xb rfl (v_lss rfl rfl) fun b9 hb9 => ?_
 refine Ze (Zt (Zs ?_))
 refine w_cond rfl (fun hc9 => ?_) fun hc9 => ?_
 ·simp only [hb9, Qz, ne_eq] at hc9
  have hkl : k < cs.length := by omega
  obtain ⟨b0, o0, hA0, hD0, hc0, hk9⟩ := int_at hcs hkl
  refine w_skip (Zt (Zs (w_block (Zs (Zr ?_)))))
  refine Xm ?_
  refine Xa ?_
  refine Ze (Zt (Zs (Zr ?_)))
  refine Xm ?_
  refine Xm ?_
  refine Xm ?_
  refine Xv rfl (v_indexAddr u25 sz3 (congrArg (fun A => some (Value.slice A cs.length c0)) hA0) rfl (by omega) rfl) ?_
  refine Xl rfl u3 rfl (at_ro hsn (hD _ hD0) (by rw [Nat.mul_one]; exact hc0)) ?_
  refine x_turn (τ := Array MapEntry × Nat × (Value → Option Value)) (v := .bool (rchB (gs8 hs) t cs[k])) (fst := #[]) (cap := #[Pt p5, Pt p7, Pt p3, Pt p8]) (fun z => MapF Tryz.prog 3 z.1 z.2.2 ∧ ((rchB (gs8 hs) t cs[k]) = false → seenTo (gs8 hs) t f z.2.2)) (fun z => (mS, Obj.map z.1 z.2.1) :: (Bk p8 [Value.func (.func 157) #[] #[Pt p5, Pt p7, Pt p3, Pt p8]] 157) :: (Bk p7 [Value.map (some mS)] 208) :: (Bk p5 [Vi t] 3) :: [(Bk p3 [Pt ps] 76)]) rfl rfl rfl Tryz.func157 Zk rfl (fun w1 hw1 => by simpa using hV k hkl w1 es ck f hM hst hw1) ?_
  rintro ⟨es2, ck2, f2⟩ ⟨hM2, hst2⟩
  dsimp only at hM2 hst2
  refine Ze (Zt ?_)
  refine w_cond rfl (fun hc16 => ?_) fun hc16 => ?_
  ·skip
   refine Zs (Zr ?_)
   refine Xm ?_
   refine Xa ?_
   refine Ze (Zt (w_ret (b_ret (t_ret (t_ret (b_ret (t_ret ?_)))))))
   refine ret1 rfl rfl (fun w' hm => ⟨by rw [fidx_at hkl hc16 hno], (es2, ck2, f2), ⟨hM2, fun h => ?_⟩, hm⟩)
   have := List.any_eq_false.1 h cs[k] (List.getElem_mem hkl)
   exact absurd hc16 this
  skip
  refine w_skip (b_norm (Zt (Zr ?_)))
  refine Xv rfl (v_addi rfl rfl rfl Zo) ?_
  refine Xm ?_
  refine Ze ?_
  exact l_norm (k + 1, es2, ck2, f2) ⟨hkl, (fun j h hj => by rcases Nat.lt_succ_iff_lt_or_eq.1 hj with h2 | rfl; (· exact hno j h h2); exact hc16), hM2, hst.trans (hst2 hc16)⟩ (by simp only; omega) Zu (fun _ h => h)
 simp only [hb9, Qz, ne_eq] at hc9
 obtain rfl : k = cs.length := by omega
 refine w_exit ?_
 refine t_exit ?_
 refine t_exit ?_
 refine b_hit ?_
 refine Zt (Zs (Zr ?_))
 refine Xa ?_
 refine Ze (Zt (w_ret ?_))
 exact ret1 rfl rfl (fun w' hm => ⟨by rw [fidx_none (fun j h => hno j h h)], (es, ck, f), ⟨hM, fun _ => hst⟩, hm⟩)
theorem k_CFi {hs : List HM} {t : Int} {mS p8 p7 p5 p3 ps : Nat} {w ws : World} {ro : List Snap} {cs : List Int} {v : Value} {D dom : Nat → Prop} {es : Array MapEntry} {ck : Nat} {f1 : Value → Option Value} (hm : Mem w ((mS, Obj.map es ck) :: (Bk p8 [Value.func (.func 157) #[] #[Pt p5, Pt p7, Pt p3, Pt p8]] 157) :: (Bk p7 [Value.map (some mS)] 208) :: (Bk p5 [Vi t] 3) :: [(Bk p3 [Pt ps] 76)]) ro) (hM : MapF Tryz.prog 3 es f1) (hcs : sliceRd tyI D ws v cs) (hsn : (ws, dom) ∈ ro) (hD : ∀ b, D b → dom b) (hV : ∀ j (h : j < cs.length) (w1 : World) (es : Array MapEntry) (ck : Nat) (f : Value → Option Value), MapF Tryz.prog 3 es f → seenTo (gs8 hs) t f1 f → Mem w1 ((mS, Obj.map es ck) :: (Bk p8 [Value.func (.func 157) #[] #[Pt p5, Pt p7, Pt p3, Pt p8]] 157) :: (Bk p7 [Value.map (some mS)] 208) :: (Bk p5 [Vi t] 3) :: [(Bk p3 [Pt ps] 76)]) ro → Calls Tryz.prog 157 #[Vi cs[j], Pt p5, Pt p7, Pt p3, Pt p8] w1 fun e w2 => e = .returned (.bool (rchB (gs8 hs) t cs[j])) ∧ ∃ z : Array MapEntry × Nat × (Value → Option Value), (MapF Tryz.prog 3 z.1 z.2.2 ∧ (rchB (gs8 hs) t cs[j] = false → seenTo (gs8 hs) t f z.2.2)) ∧ Mem w2 ((mS, Obj.map z.1 z.2.1) :: (Bk p8 [Value.func (.func 157) #[] #[Pt p5, Pt p7, Pt p3, Pt p8]] 157) :: (Bk p7 [Value.map (some mS)] 208) :: (Bk p5 [Vi t] 3) :: [(Bk p3 [Pt ps] 76)]) ro) :
  Calls Tryz.prog 158 #[v, Value.func (.func 157) #[] #[Pt p5, Pt p7, Pt p3, Pt p8]] w fun e w' => e = .returned (.bool (cs.any (fun c => rchB (gs8 hs) t c))) ∧ ∃ z : Array MapEntry × Nat × (Value → Option Value), (MapF Tryz.prog 3 z.1 z.2.2 ∧ (cs.any (fun c => rchB (gs8 hs) t c) = false → seenTo (gs8 hs) t f1 z.2.2)) ∧ Mem w' ((mS, Obj.map z.1 z.2.1) :: (Bk p8 [Value.func (.func 157) #[] #[Pt p5, Pt p7, Pt p3, Pt p8]] 157) :: (Bk p7 [Value.map (some mS)] 208) :: (Bk p5 [Vi t] 3) :: [(Bk p3 [Pt ps] 76)]) ro := by
 refine enter_in hm (vs := [v, Value.func (.func 157) #[] #[Pt p5, Pt p7, Pt p3, Pt p8]]) Tryz.func158 rfl Tryz.ntmps158 rfl ?_
 refine Zs (Zr ?_)
 refine Xa ?_
 refine Ze (Zt (Zs (Zr ?_)))
 refine Xm ?_
 refine Xm ?_
 refine x_turnf (τ := Array MapEntry × Nat × (Value → Option Value)) (v := Vi (fidx (fun c => rchB (gs8 hs) t c) cs)) (fun z => MapF Tryz.prog 3 z.1 z.2.2 ∧ (cs.any (fun c => rchB (gs8 hs) t c) = false → seenTo (gs8 hs) t f1 z.2.2)) (fun z => (mS, Obj.map z.1 z.2.1) :: (Bk p8 [Value.func (.func 157) #[] #[Pt p5, Pt p7, Pt p3, Pt p8]] 157) :: (Bk p7 [Value.map (some mS)] 208) :: (Bk p5 [Vi t] 3) :: [(Bk p3 [Pt ps] 76)]) rfl rfl Tryz.func165 Zk rfl (fun w1 hw1 => k_IFi hw1 hM hcs hsn hD hV) ?_
 rintro ⟨es2, ck2, f2⟩ ⟨hM2, hst2⟩
 dsimp only at hM2 hst2
 refine Xb rfl (v_geq rfl rfl) fun b8 hb8 => ?_
 refine Xa ?_
 refine Ze (Zt (w_ret ?_))
 exact ret1 rfl rfl (fun w' hm => ⟨by rw [hb8, Bool.eq_iff_iff.2 (decide_eq_true_iff.trans (fidx_nn _ cs))], (es2, ck2, f2), ⟨hM2, hst2⟩, hm⟩)
set_option maxHeartbeats 2000000 in
theorem k_visit1 {hs : List HM} {t : Int} {mS p8 p7 p5 p3 ps : Nat} {w w0 : World} {ro : List Snap} {mH : Nat} {es0 : Array MapEntry} {ck0 : Nat} {x : HM} {id : Int} {r : Int → Nat} {es : Array MapEntry} {ck : Nat} {f : Value → Option Value} (hm : Mem w ((mS, Obj.map es ck) :: (Bk p8 [Value.func (.func 157) #[] #[Pt p5, Pt p7, Pt p3, Pt p8]] 157) :: (Bk p7 [Value.map (some mS)] 208) :: (Bk p5 [Vi t] 3) :: [(Bk p3 [Pt ps] 76)]) ro) (hM : MapF Tryz.prog 3 es f) (hse : seenOK f (fun k => ¬PK.RchH (gs8 hs) t k ∨ r id < r k)) (hro : (w0, fun _ => True) ∈ ro) (hR : RdS w0 ps mH es0 ck0 hs) (ha : Acy (gs8 hs)) (hx : lkM8 hs id = some x) (hlen : ∀ x ∈ hs, x.g.spl.length ≤ 10000000) (hr : ∀ h ∈ (gs8 hs), ∀ c ∈ edges h, r c < r h.id) (ih : ∀ c ∈ edges x.g, ∀ (ro1 : List Snap), (w0, fun _ => True) ∈ ro1 → ∀ (w1 : World) (es : Array MapEntry) (ck : Nat) (f : Value → Option Value), MapF Tryz.prog 3 es f → seenOK f (fun k => ¬PK.RchH (gs8 hs) t k ∨ r c < r k) → Mem w1 ((mS, Obj.map es ck) :: (Bk p8 [Value.func (.func 157) #[] #[Pt p5, Pt p7, Pt p3, Pt p8]] 157) :: (Bk p7 [Value.map (some mS)] 208) :: (Bk p5 [Vi t] 3) :: [(Bk p3 [Pt ps] 76)]) ro1 → Calls Tryz.prog 157 #[Vi c, Pt p5, Pt p7, Pt p3, Pt p8] w1 fun e w2 => e = .returned (.bool (rchB (gs8 hs) t c)) ∧ ∃ z : Array MapEntry × Nat × (Value → Option Value), (MapF Tryz.prog 3 z.1 z.2.2 ∧ (rchB (gs8 hs) t c = false → seenTo (gs8 hs) t f z.2.2)) ∧ Mem w2 ((mS, Obj.map z.1 z.2.1) :: (Bk p8 [Value.func (.func 157) #[] #[Pt p5, Pt p7, Pt p3, Pt p8]] 157) :: (Bk p7 [Value.map (some mS)] 208) :: (Bk p5 [Vi t] 3) :: [(Bk p3 [Pt ps] 76)]) ro1) :
  Calls Tryz.prog 157 #[Vi id, Pt p5, Pt p7, Pt p3, Pt p8] w fun e w' => e = .returned (.bool (rchB (gs8 hs) t id)) ∧ ∃ z : Array MapEntry × Nat × (Value → Option Value), (MapF Tryz.prog 3 z.1 z.2.2 ∧ (rchB (gs8 hs) t id = false → seenTo (gs8 hs) t f z.2.2)) ∧ Mem w' ((mS, Obj.map z.1 z.2.1) :: (Bk p8 [Value.func (.func 157) #[] #[Pt p5, Pt p7, Pt p3, Pt p8]] 157) :: (Bk p7 [Value.map (some mS)] 208) :: (Bk p5 [Vi t] 3) :: [(Bk p3 [Pt ps] 76)]) ro := by
 obtain ⟨a1, d1, hsp, hxi, _⟩ := lkM8_split hx
 have hxm : x ∈ hs := by rw [hsp]; simp
 have hid : in64 id := hxi ▸ hR.ids x hxm
 have hlk : lkH (gs8 hs) id = some x.g := by rw [lkM8_g, hx]; rfl
 refine enter_in hm (vs := [Vi id, Pt p5, Pt p7, Pt p3, Pt p8]) Tryz.func157 rfl Tryz.ntmps157 rfl ?_
 refine Zs (Zr ?_)
 refine Xa ?_
 refine Ze (Zt (Zs (Zs (Zr ?_))))
 refine Xm ?_
 refine Xl rfl u3 rfl (at_ownL (vs := [Vi t]) (.tail _ (.tail _ (.tail _ (.head _)))) rfl) ?_
 refine Xb rfl (v_eql rfl rfl) fun b9 hb9 => ?_
 refine Ze (Zt ?_)
 refine w_cond rfl (fun hc9 => ?_) fun hc9 => ?_
 ·simp only [hb9, Qz, ne_eq] at hc9
  obtain rfl : id = t := hc9
  refine Zs (Zr ?_)
  refine Xa ?_
  refine Ze (Zt (w_ret (t_ret ?_)))
  exact ret1 rfl rfl (fun w' hm => ⟨by rw [rchB_here], (es, ck, f), ⟨hM, fun h => by rw [rchB_here] at h; cases h⟩, hm⟩)
 simp only [hb9, Qz, ne_eq] at hc9
 have hne : id ≠ t := hc9
 refine w_skip (Zt (Zs (Zs (Zr ?_))))
 refine Xl rfl u208 rfl (at_ownL (vs := [Value.map (some mS)]) (.tail _ (.tail _ (.head _))) rfl) ?_
 refine Xm ?_
 refine Xv (v := Value.bool (f (Vi id)).isSome) rfl (v_lookup u208 (Maps.int_keyed u3) zr4 rfl rfl (Maps.keyOf_int_mk u3 (wf_in hid)) (.head _) hM (seen_is hse id)) ?_
 refine Ze (Zt ?_)
 refine w_cond rfl (fun hc12 => ?_) fun hc12 => ?_
 ·have hno : ¬PK.RchH (gs8 hs) t id := (seen_at hse hc12).resolve_right (Nat.lt_irrefl _)
  refine Zs (Zr ?_)
  refine Xa ?_
  refine Ze (Zt (w_ret (t_ret ?_)))
  exact ret1 rfl rfl (fun w' hm => ⟨by rw [rchB_no.2 hno], (es, ck, f), ⟨hM, fun _ => seenTo.refl⟩, hm⟩)
 skip
 refine w_skip (Zt (Zs (Zr ?_)))
 refine Xl rfl u208 rfl (at_ownL (vs := [Value.map (some mS)]) (.tail _ (.tail _ (.head _))) rfl) ?_
 refine Xm ?_
 refine x_mapUpdate [] rfl rfl rfl rfl u208 (Maps.int_keyed u3) (Maps.keyOf_int_mk u3 (wf_in hid)) rfl hM ?_
 intro es13 clock13 hmf13
 refine Ze (Zt (Zs ?_))
 refine rg_draw 8 [(true, 0), (true, 1), (true, 2), (true, 3), (true, 4), (true, 5), (true, 7), (false, 6)] Zk Zk ?_
 refine Xl rfl u76 rfl (at_ownL (vs := [Pt ps]) (.tail _ (.tail _ (.tail _ (.tail _ (.head _))))) rfl) ?_
 refine Xn ?_
 refine Xf _ rfl u91 rfl sz88 ?_
 refine Xl rfl u88 rfl (at_ro hro trivial hR.st) ?_
 refine Xm ?_
 refine Xv (v := Pt x.p) rfl (v_lookupH u88 (Maps.int_keyed u3) zr86 rfl rfl (Maps.keyOf_int_mk u3 (wf_in hid)) (map_ro hro trivial hR.mp) hR.mf (by rw [hmM, hx]; rfl)) ?_
 refine Xl rfl u157 rfl (at_ownL (vs := [Value.func (.func 157) #[] #[Pt p5, Pt p7, Pt p3, Pt p8]]) (.tail _ (.head _)) rfl) ?_
 refine x_call (R := fun v wa wb => ∃ A c, v = .slice A (edges x.g).length c ∧ sliceRd tyI (fun b => wa.heap.size ≤ b) wb (.slice A (edges x.g).length c) (edges x.g)) rfl rfl rfl Tryz.func159 Zk rfl (fun w1 hw1 => (k_next (x := x) w1 (fun i v hv => (hR.later (hw1.base hro)).cell hxm i v hv) (fun q hq => (hR.later (hw1.base hro)).rows x hxm q (List.mem_append_right _ hq)) (hR.ok x hxm) (fun c hc => (edges_in ha hR.ids hxm c hc).1) (hlen x hxm)).mono fun e w2 ⟨rr, h1, h2, h3⟩ => ⟨_, h1, h3.base (by simp), by
  have h4 := rowI_rd (D := fun b => w1.heap.size ≤ b) h2 rfl (fun c hc => (edges_in ha hR.ids hxm c hc).1) h3 (fun p hp => hp) (fun p hp => h3.newer (by simp) hp)
  exact ⟨_, _, rfl, h4⟩⟩) ?_
 intro v21 wa21 wb21 hm21 hl21 hR21
 obtain ⟨A21, c21, rfl, hsl⟩ := hR21
 refine x_turnf (τ := Array MapEntry × Nat × (Value → Option Value)) (v := .bool ((edges x.g).any (fun c => rchB (gs8 hs) t c))) (fun z => MapF Tryz.prog 3 z.1 z.2.2 ∧ ((edges x.g).any (fun c => rchB (gs8 hs) t c) = false → seenTo (gs8 hs) t (fupd f (Vi id) (.bool true)) z.2.2)) (fun z => (mS, Obj.map z.1 z.2.1) :: (Bk p8 [Value.func (.func 157) #[] #[Pt p5, Pt p7, Pt p3, Pt p8]] 157) :: (Bk p7 [Value.map (some mS)] 208) :: (Bk p5 [Vi t] 3) :: [(Bk p3 [Pt ps] 76)]) rfl rfl Tryz.func158 Zk rfl (fun w1 hw1 => k_CFi hw1 hmf13 hsl (.head _) (fun b hb q hq he => by have := hm21.lt hq; omega) (fun j hj w2 es2 ck2 f2 hM2 hst2 hm2 => ih _ (List.getElem_mem hj) _ (.tail _ hro) w2 es2 ck2 f2 hM2 (by
  have hlt := hr x.g (List.mem_map_of_mem hxm) _ (List.getElem_mem hj)
  rw [hxi] at hlt
  refine (hst2 (fun k => ¬PK.RchH (gs8 hs) t k ∨ r id ≤ r k) ((hse.mono fun k hk => hk.imp (fun h => h) Nat.le_of_lt).put (.inr (Nat.le_refl _)))).mono fun k hk => ?_
  rcases hk with hk | hk | hk
  ·exact .inl hk
  ·exact .inl hk
  exact .inr (Nat.lt_of_lt_of_le hlt hk)) hm2)) ?_
 rintro ⟨es2, ck2, f2⟩ ⟨hM2, hst2⟩
 dsimp only at hM2 hst2
 refine Xa ?_
 refine Ze (Zt (w_ret ?_))
 have hst := rchB_step (t := t) (hlk : lkH (gs8 hs) id = some x.g) hne
 exact ret1 rfl rfl (fun w' hm => ⟨by rw [hst], (es2, ck2, f2), ⟨hM2, fun h => (hst2 (hst ▸ h)).put (rchB_no.1 h)⟩, hm.less (.refl _) (fun _ h => .tail _ h)⟩)
theorem k_visit {hs : List HM} {t : Int} {mS p8 p7 p5 p3 ps : Nat} {w0 : World} {mH : Nat} {es0 : Array MapEntry} {ck0 : Nat} (hR : RdS w0 ps mH es0 ck0 hs) (ha : Acy (gs8 hs)) (hlen : ∀ x ∈ hs, x.g.spl.length ≤ 10000000) {r : Int → Nat} (hr : ∀ h ∈ (gs8 hs), ∀ c ∈ edges h, r c < r h.id) : ∀ (n : Nat) (id : Int) (x : HM), lkM8 hs id = some x → r id ≤ n → ∀ (ro : List Snap), (w0, fun _ => True) ∈ ro → ∀ (w : World) (es : Array MapEntry) (ck : Nat) (f : Value → Option Value), MapF Tryz.prog 3 es f → seenOK f (fun k => ¬PK.RchH (gs8 hs) t k ∨ r id < r k) → Mem w ((mS, Obj.map es ck) :: (Bk p8 [Value.func (.func 157) #[] #[Pt p5, Pt p7, Pt p3, Pt p8]] 157) :: (Bk p7 [Value.map (some mS)] 208) :: (Bk p5 [Vi t] 3) :: [(Bk p3 [Pt ps] 76)]) ro →
  Calls Tryz.prog 157 #[Vi id, Pt p5, Pt p7, Pt p3, Pt p8] w fun e w' => e = .returned (.bool (rchB (gs8 hs) t id)) ∧ ∃ z : Array MapEntry × Nat × (Value → Option Value), (MapF Tryz.prog 3 z.1 z.2.2 ∧ (rchB (gs8 hs) t id = false → seenTo (gs8 hs) t f z.2.2)) ∧ Mem w' ((mS, Obj.map z.1 z.2.1) :: (Bk p8 [Value.func (.func 157) #[] #[Pt p5, Pt p7, Pt p3, Pt p8]] 157) :: (Bk p7 [Value.map (some mS)] 208) :: (Bk p5 [Vi t] 3) :: [(Bk p3 [Pt ps] 76)]) ro
 | 0, id, x, hx, hn, ro, hro, w, es, ck, f, hM, hse, hm => k_visit1 hm hM hse hro hR ha hx hlen hr fun c hc => by
  obtain ⟨a1, d1, hsp, hxi, _⟩ := lkM8_split hx
  have := hr x.g (List.mem_map_of_mem (by rw [hsp]; simp)) c hc
  rw [hxi] at this
  omega
 | n + 1, id, x, hx, hn, ro, hro, w, es, ck, f, hM, hse, hm => k_visit1 hm hM hse hro hR ha hx hlen hr fun c hc ro1 hro1 w1 es1 ck1 f1 hM1 hse1 hm1 => by
  obtain ⟨a1, d1, hsp, hxi, _⟩ := lkM8_split hx
  have hxm : x ∈ hs := by rw [hsp]; simp
  have := hr x.g (List.mem_map_of_mem hxm) c hc
  rw [hxi] at this
  obtain ⟨_, y, hy, hly, _⟩ := edges_in ha hR.ids hxm c hc
  exact k_visit hR ha hlen hr n c y hly (by omega) ro1 hro1 w1 es1 ck1 f1 hM1 hse1 hm1
set_option maxHeartbeats 1000000 in
theorem k_reaches {hs : List HM} {t id : Int} {ps mH : Nat} {es0 : Array MapEntry} {ck0 : Nat} {x : HM} (w : World) (hR : RdS w ps mH es0 ck0 hs) (ha : Acy (gs8 hs)) (hx : lkM8 hs id = some x) (hlen : ∀ x ∈ hs, x.g.spl.length ≤ 10000000) :
  Calls Tryz.prog 146 #[Pt ps, Vi id, Vi t] w fun e w' => e = .returned (.bool (rchB (gs8 hs) t id)) ∧ Later w w' := by
 obtain ⟨r, hr⟩ := ha.rank
 refine enter (vs := [Pt ps, Vi id, Vi t]) Tryz.func146 rfl Tryz.ntmps146 rfl ?_
 refine Zs (Zr ?_)
 refine x_box rfl rfl rfl rfl ?_
 intro p3
 refine x_box rfl rfl rfl rfl ?_
 intro p5
 refine Xa ?_
 refine Ze (Zt (Zs (Zr ?_)))
 refine x_makeMap rfl rfl rfl ?_
 intro p9
 refine x_alloc rfl rfl rfl zr208 ?_
 intro p7
 refine x_store [] rfl rfl rfl rfl sz208 rfl (by first | decide | simp) ?_
 refine Ze (Zt (Zs (Zr ?_)))
 refine x_alloc rfl rfl rfl zr157 ?_
 intro p8
 refine Ze (Zt (Zs (Zr ?_)))
 refine Xv (v := Value.func (.func 157) #[] #[Pt p5, Pt p7, Pt p3, Pt p8]) rfl (v_func rfl) ?_
 refine x_store [] rfl rfl rfl rfl sz157 rfl (by first | decide | simp) ?_
 refine Ze (Zt (Zs ?_))
 refine x_memW (own' := (p9, Obj.map #[] 0) :: (Bk p8 [Value.func (.func 157) #[] #[Pt p5, Pt p7, Pt p3, Pt p8]] 157) :: (Bk p7 [Value.map (some p9)] 208) :: (Bk p5 [Vi t] 3) :: [(Bk p3 [Pt ps] 76)]) (ro' := [(w, fun _ => True)]) (fun w1 h => (h.perm (List.Perm.trans (List.Perm.cons _ (List.Perm.swap _ _ _)) (List.Perm.swap _ _ _))).to rfl) ?_
 refine Zr ?_
 refine Xl rfl u157 rfl (at_ownL (vs := [Value.func (.func 157) #[] #[Pt p5, Pt p7, Pt p3, Pt p8]]) (.tail _ (.head _)) rfl) ?_
 refine Xm ?_
 refine x_turn (τ := Array MapEntry × Nat × (Value → Option Value)) (v := .bool (rchB (gs8 hs) t id)) (fst := #[]) (cap := #[Pt p5, Pt p7, Pt p3, Pt p8]) (fun z => True) (fun z => (p9, Obj.map z.1 z.2.1) :: (Bk p8 [Value.func (.func 157) #[] #[Pt p5, Pt p7, Pt p3, Pt p8]] 157) :: (Bk p7 [Value.map (some p9)] 208) :: (Bk p5 [Vi t] 3) :: [(Bk p3 [Pt ps] 76)]) rfl rfl rfl Tryz.func157 Zk rfl (fun w1 hw1 => by
  have h := k_visit hR ha hlen hr (r id) id x hx (Nat.le_refl _) [(w, fun _ => True)] (by simp) w1 #[] 0 (fun _ => none) MapF.empty seenOK.none hw1
  have e : (#[] ++ [Vi id].toArray ++ #[Pt p5, Pt p7, Pt p3, Pt p8] : Array Value) = #[Vi id, Pt p5, Pt p7, Pt p3, Pt p8] := by simp
  rw [e]
  exact h.mono fun e w2 ⟨h1, z, h2, h3⟩ => ⟨h1, z, trivial, h3⟩) ?_
 intro z _
 refine Xa ?_
 refine Ze (Zt (w_ret ?_))
 refine ret1 rfl rfl (fun w' hm => ⟨?_, hm.base (by simp)⟩)
 rfl
open Go.RowKit Go.PK
theorem ap95 : (Tryz.prog.info? 95).map (fun j => (j.zero, j.size, j.bytes)) = some (some (.agg #[.string ⟨#[]⟩, Vi 0]), 2, 24) := by kernel_rfl
noncomputable def mayB (hs : List HM) (f : FD) : Bool := alB (lkM8 hs f.hd) && (lkM8 hs f.to).isSome && !rchB (gs8 hs) f.hd f.to
def ptV (o : Option HM) : Option Addr := match o with | none => none | some x => some ⟨x.p, 0, none⟩
theorem pt_some (o : Option HM) : (!(ptV o).isNone) = o.isSome := by cases o <;> rfl
theorem hm_get (hs : List HM) (id : Int) : (hmM hs (Vi id)).getD (.pointer none) = .pointer (ptV (lkM8 hs id)) := by
 unfold hmM
 dsimp only
 cases lkM8 hs id <;> rfl
set_option maxHeartbeats 1000000 in
theorem k_seeA {ps : Nat} {f : FD} {x : HM} {l1 L : List (Nat × Obj)} {ro : List Snap} {w : World} (hm : Mem w (l1 ++ (Bk x.p (hmC x) 97) :: (rowO 9 x.O ++ (rowO 95 x.S ++ L))) ro) (hok : hmOK x) (hal : ∀ w1, Mem w1 (l1 ++ (Bk x.p (hmC x) 97) :: (rowO 9 x.O ++ (rowO 95 x.S ++ L))) ro → Calls Tryz.prog 128 #[Pt ps, Vi f.hd] w1 fun e w2 => e = .returned (.tuple #[Pt x.p, .bool true]) ∧ Later w1 w2) (hs : f.txt.size ≤ 4000000) (hlen : x.g.oth.length ≤ 10000000 ∧ x.g.spl.length ≤ 10000000) {w0 : World} (hro : (w0, fun _ => True) ∈ ro) (hL : LD w0) :
  Calls Tryz.prog 107 #[Pt ps, Value.agg f.cells.toArray] w fun e w' => e = .returned (.bool true) ∧ ∃ y : HM, (hmOK y ∧ y.p = x.p ∧ y.g = { x.g with oth := x.g.oth ++ [f.txt] }) ∧ Mem w' (l1 ++ (Bk x.p (hmC y) 97) :: (rowO 9 y.O ++ (rowO 95 y.S ++ L))) ro := by
 refine enter_in hm (vs := [Pt ps, Value.agg f.cells.toArray]) Tryz.func107 rfl Tryz.ntmps107 rfl ?_
 refine Zs (Zr ?_)
 refine x_box rfl rfl rfl rfl ?_
 intro p3
 refine Xa ?_
 refine Ze (Zt (Zs (Zr ?_)))
 refine Xm ?_
 refine Xf 3 rfl u28 rfl sz3 ?_
 refine Xl rfl u3 rfl (at_ownL (vs := f.cells) (.head _) rfl) ?_
 refine x_callv rfl rfl rfl Tryz.func128 Zk rfl (fun w1 hw1 => hal w1 (hw1.less (List.sublist_cons_self _ _) (fun _ h => h))) ?_
 refine Xm ?_
 refine Xe ?_
 refine Xb rfl (v_extract rfl rfl) fun b13 hb13 => ?_
 obtain rfl : b13 = true := hb13
 refine Xa ?_
 refine Xa ?_
 refine Ze (Zt (Zs (Zs (Zr ?_))))
 refine Xm ?_
 refine Ze (Zt ?_)
 refine w_cond rfl (fun hc14 => ?_) fun hc14 => ?_
 ·skip
  refine rg_inv ([(Bk p3 f.cells 28), (Bk x.p (hmC x) 97)]) 12 (.flt 0 (.flt 1 (.flt 2 (.flt 3 (.flt 4 (.flt 5 (.flt 6 (.flt 7 (.gr 8 (.gr 9 (.flt 10 (.flt 11 .done)) .nil) .nil))))))))) ((List.singleton_sublist.2 (by simp)).cons_cons _) Zk Zk ?_
  refine j_val rfl rfl (v_move rfl) ?_
  refine j_val rfl rfl (v_move rfl) ?_
  refine j_val rfl rfl (v_nilCheck rfl) ?_
  refine j_val rfl rfl (v_fieldAddr u97 rfl sz38 (by decide) rfl rfl) ?_
  refine j_val rfl rfl (v_load u38 rfl rfl (at_ownL (vs := hmC x) (.tail _ (.head _)) rfl)) ?_
  refine j_val rfl rfl (v_fieldAddr (off' := 5) u28 rfl sz9 (by decide) rfl rfl) ?_
  refine j_val rfl rfl (v_load u9 rfl rfl (at_ownL (vs := f.cells) (.head _) rfl)) ?_
  refine j_callv rfl rfl Tryz.func49 Zk rfl (fun w1 hw1 => k_Fold f.txt w1 hs (hL.later (hw1.base hro))) ?_
  refine j_gr ?_ j_nil
  refine x_buildSliceL (cs := [Value.string (foldS f.txt)]) rfl rfl rfl u38 sz9 zr9 rfl rfl rfl ?_
  intro p23
  refine Ze ?_
  refine j_end (((List.singleton_sublist.2 (by simp)).cons_cons _).cons _) ?_
  refine j_gr ?_ j_nil
  refine x_append (e := 9) ((Bk p23 [Value.string (foldS f.txt)] 9) :: (Bk p3 f.cells 28) :: (l1 ++ [(Bk x.p (hmC x) 97)])) (l2 := rowO 95 x.S ++ L) x.O (len := x.g.oth.length) (xs := othC x.g.oth) rfl rfl rfl rfl (by simp; rfl) hok.1 u38 ap9 rfl rfl (m := 1) (news := [Value.string (foldS f.txt)]) (fun i hi => at_ownL (vs := [Value.string (foldS f.txt)]) (.head _) (by rw [Nat.zero_add]; exact List.getElem?_eq_getElem hi)) rfl Zx (by omega) fun R' hR' => ?_
  refine Ze ?_
  refine j_end (((List.singleton_sublist.2 (by simp)).cons_cons _).cons _) ?_
  refine j_val rfl rfl (v_nilCheck rfl) ?_
  refine j_val rfl rfl (v_fieldAddr u97 rfl sz38 (by decide) rfl rfl) ?_
  refine j_done ?_
  refine x_store (cs := hmC x) (off := 2) (e := 97) (l2 := rowO 9 R' ++ (rowO 95 x.S ++ L)) ((Bk p23 [Value.string (foldS f.txt)] 9) :: (Bk p3 f.cells 28) :: l1) rfl rfl rfl (by simp) sz38 rfl (by show 2 + 1 ≤ 5; decide) ?_
  refine x_mem (fun _ h => h.less (List.sublist_cons_self _ _) (fun _ h => h)) ?_
  refine Ze (Zt (Zs (Zr ?_)))
  refine Xm ?_
  refine Xa ?_
  refine Ze (Zt (w_ret ?_))
  exact ret1 rfl rfl (fun w' hm' => ⟨rfl, ⟨{ x.g with oth := x.g.oth ++ [f.txt] }, x.p, R', x.S⟩, ⟨⟨by dsimp only; unfold othC at hR' ⊢; rw [List.length_append, List.map_append]; exact hR', hok.2⟩, rfl, rfl⟩, (hm'.less (List.sublist_cons_self _ _) (fun _ h => h)).to (by simp [hmC]; rfl)⟩)
 cases hc14
set_option maxHeartbeats 1000000 in
theorem k_may {hs : List HM} {f : FD} {ps mH : Nat} {es0 : Array MapEntry} {ck0 : Nat} (w : World) (hR : RdS w ps mH es0 ck0 hs) (ha : Acy (gs8 hs)) (hin : in64 f.hd ∧ in64 f.to) (hlen : ∀ x ∈ hs, x.g.spl.length ≤ 10000000) :
  Calls Tryz.prog 129 #[Pt ps, Value.agg f.cells.toArray] w fun e w' => e = .returned (.tuple #[alV (lkM8 hs f.hd), .bool (mayB hs f)]) ∧ Later w w' := by
 refine enter (vs := [Pt ps, Value.agg f.cells.toArray]) Tryz.func129 rfl Tryz.ntmps129 rfl ?_
 refine Zs (Zr ?_)
 refine x_box rfl rfl rfl rfl ?_
 intro p3
 refine Xa ?_
 refine Xa ?_
 refine Ze (Zt (Zs (Zr ?_)))
 refine Xm ?_
 refine Xf 3 rfl u28 rfl sz3 ?_
 refine Xl rfl u3 rfl (at_ownL (vs := f.cells) (.head _) rfl) ?_
 refine x_callv (v := Value.tuple #[alV (lkM8 hs f.hd), .bool (alB (lkM8 hs f.hd))]) rfl rfl rfl Tryz.func128 Zk rfl (fun w1 hw1 => k_alive w1 (hR.later (hw1.base (by simp))).st (hR.later (hw1.base (by simp))).mp hR.mf hin.1 (by unfold hmM; rfl) (fun x hx => (hR.later (hw1.base (by simp))).cell (by obtain ⟨a1, d1, h2, _⟩ := lkM8_split hx; rw [h2]; simp))) ?_
 refine Xm ?_
 refine Xe ?_
 refine Xb rfl (v_extract rfl rfl) fun b14 hb14 => ?_
 refine Xa ?_
 refine Xa ?_
 refine Ze (Zt (Zs ?_))
 refine rg_draw 23 [(true, 0), (true, 1), (true, 2), (true, 3), (true, 4), (true, 5), (true, 6), (true, 7), (true, 8), (true, 9), (true, 10), (true, 11), (true, 12), (true, 13), (true, 14), (true, 15), (true, 16), (true, 17), (true, 18), (true, 19), (true, 20), (true, 21), (true, 22)] Zk Zk ?_
 refine Xm ?_
 refine Xm ?_
 refine Xm ?_
 refine Xg ?_
 refine Xi rfl rfl rfl (fun hg0 => by subst hg0; (try simp only [Qy]); exact v_nilCheck rfl) ?_
 refine Xi rfl rfl rfl (fun hg0 => by subst hg0; (try simp only [Qy]); exact v_fieldAddr (off' := 0) u91 rfl sz88 (by decide) rfl rfl) ?_
 refine Xi rfl rfl rfl (fun hg0 => by subst hg0; (try simp only [Qy]); exact v_load u88 rfl rfl (at_ro (.head _) trivial hR.st)) ?_
 refine Xi rfl rfl rfl (fun hg0 => by subst hg0; (try simp only [Qy]); exact v_fieldAddr (off' := 4) u28 rfl sz3 (by decide) rfl rfl) ?_
 refine Xi rfl rfl rfl (fun hg0 => by subst hg0; (try simp only [Qy]); exact v_load u3 rfl rfl (at_ownL (vs := f.cells) (.head _) rfl)) ?_
 refine x_if [] rfl rfl rfl rfl rfl (v := Value.pointer (ptV (lkM8 hs f.to))) (fun hg => by obtain ⟨hg0, _⟩ := hg; subst hg0; (try simp only [Qy]); exact v_lookupH u88 (Maps.int_keyed u3) zr86 rfl rfl (Maps.keyOf_int_mk u3 (wf_in hin.2)) (map_ro (.head _) trivial hR.mp) hR.mf (hm_get hs f.to)) ?_
 refine x_ifb [] rfl rfl rfl rfl rfl (c := !(ptV (lkM8 hs f.to)).isNone) (fun hg => by obtain ⟨hg0, _⟩ := hg; subst hg0; (try simp only [Qy]); exact v_nep u86 rfl rfl) fun b25 hb25 => ?_
 rw [pt_some] at hb25
 refine Xb rfl (v_and rfl rfl) fun b26 hb26 => ?_
 refine Xm ?_
 refine Xg ?_
 refine Xi rfl rfl rfl (fun hg0 => by subst hg0; (try simp only [Qy]); exact v_fieldAddr (off' := 4) u28 rfl sz3 (by decide) rfl rfl) ?_
 refine Xi rfl rfl rfl (fun hg0 => by subst hg0; (try simp only [Qy]); exact v_load u3 rfl rfl (at_ownL (vs := f.cells) (.head _) rfl)) ?_
 refine Xi rfl rfl rfl (fun hg0 => by subst hg0; (try simp only [Qy]); exact v_fieldAddr (off' := 3) u28 rfl sz3 (by decide) rfl rfl) ?_
 refine Xi rfl rfl rfl (fun hg0 => by subst hg0; (try simp only [Qy]); exact v_load u3 rfl rfl (at_ownL (vs := f.cells) (.head _) rfl)) ?_
 refine x_call_ifb [] rfl rfl rfl rfl rfl Tryz.func146 Zk (fun hg => by obtain ⟨hg0, _⟩ := hg; subst hg0; (try simp only [Qy]); refine ⟨_, rfl, ?_⟩; exact (by
  rw [hb25] at hb26
  cases hq : (lkM8 hs f.to) with
  | none => rw [hq] at hb26; simp at hb26
  | some y => exact fun w1 hw1 => k_reaches w1 (hR.later (hw1.base (by simp))) ha hq hlen)) ?_
 intro b33 hb33
 refine Xj rfl rfl rfl (fun hg0 => by subst hg0; (try simp only [Qy]); exact v_not rfl) fun b34 hb34 => ?_
 refine Xb rfl (v_and rfl rfl) fun b35 hb35 => ?_
 refine Xa ?_
 refine Xa ?_
 refine Ze (Zt (w_ret ?_))
 refine ret2 rfl rfl rfl (fun w' hm => ⟨?_, hm.base (by simp)⟩)
 rw [hb35, hb34, hb33, hb26, hb25, hb14]; rfl
theorem k_mergeN {ps : Nat} {f : FD} {v : Value} (w : World) (hal : ∀ w1, Later w w1 → Calls Tryz.prog 129 #[Pt ps, Value.agg f.cells.toArray] w1 fun e w2 => e = .returned (.tuple #[v, .bool false]) ∧ Later w1 w2) :
  Calls Tryz.prog 108 #[Pt ps, Value.agg f.cells.toArray] w fun e w' => e = .returned (.bool (false)) ∧ Later w w' := by
 refine enter (vs := [Pt ps, Value.agg f.cells.toArray]) Tryz.func108 rfl Tryz.ntmps108 rfl ?_
 refine Zs (Zr ?_)
 refine x_box rfl rfl rfl rfl ?_
 intro p3
 refine Xa ?_
 refine Ze (Zt (Zs (Zr ?_)))
 refine Xm ?_
 refine Xv rfl (v_load_blk u28 rfl rfl (.head _) (by exact sz28)) ?_
 refine x_callv rfl rfl rfl Tryz.func129 Zk rfl (fun w1 hw1 => hal w1 (hw1.base (by simp))) ?_
 refine Xm ?_
 refine Xe ?_
 refine Xb rfl (v_extract rfl rfl) fun b12 hb12 => ?_
 obtain rfl : b12 = false := hb12
 refine Xa ?_
 refine Xa ?_
 refine Ze (Zt (Zs (Zs (Zr ?_))))
 refine Xm ?_
 refine Ze (Zt ?_)
 refine w_cond rfl (fun hc13 => ?_) fun hc13 => ?_
 ·cases hc13
 skip
 refine w_skip (Zt (Zs (Zr ?_)))
 refine Xm ?_
 refine Xa ?_
 refine Ze (Zt (w_ret ?_))
 refine ret1 rfl rfl (fun w' hm => ⟨?_, hm.base (by simp)⟩)
 rfl
theorem k_splitN {ps : Nat} {f : FD} {v : Value} (w : World) (hal : ∀ w1, Later w w1 → Calls Tryz.prog 129 #[Pt ps, Value.agg f.cells.toArray] w1 fun e w2 => e = .returned (.tuple #[v, .bool false]) ∧ Later w1 w2) :
  Calls Tryz.prog 109 #[Pt ps, Value.agg f.cells.toArray] w fun e w' => e = .returned (.bool (false)) ∧ Later w w' := by
 refine enter (vs := [Pt ps, Value.agg f.cells.toArray]) Tryz.func109 rfl Tryz.ntmps109 rfl ?_
 refine Zs (Zr ?_)
 refine x_box rfl rfl rfl rfl ?_
 intro p3
 refine Xa ?_
 refine Ze (Zt (Zs (Zr ?_)))
 refine Xm ?_
 refine Xv rfl (v_load_blk u28 rfl rfl (.head _) (by exact sz28)) ?_
 refine x_callv rfl rfl rfl Tryz.func129 Zk rfl (fun w1 hw1 => hal w1 (hw1.base (by simp))) ?_
 refine Xm ?_
 refine Xe ?_
 refine Xb rfl (v_extract rfl rfl) fun b12 hb12 => ?_
 obtain rfl : b12 = false := hb12
 refine Xa ?_
 refine Xa ?_
 refine Ze (Zt (Zs (Zs (Zr ?_))))
 refine Xm ?_
 refine Ze (Zt ?_)
 refine w_cond rfl (fun hc13 => ?_) fun hc13 => ?_
 ·cases hc13
 skip
 refine w_skip (Zt (Zs (Zr ?_)))
 refine Xm ?_
 refine Xa ?_
 refine Ze (Zt (w_ret ?_))
 refine ret1 rfl rfl (fun w' hm => ⟨?_, hm.base (by simp)⟩)
 rfl
set_option maxHeartbeats 1000000 in
theorem k_mergeA {ps : Nat} {f : FD} {x : HM} {l1 L : List (Nat × Obj)} {ro : List Snap} {w : World} (hm : Mem w (l1 ++ (Bk x.p (hmC x) 97) :: (rowO 9 x.O ++ (rowO 95 x.S ++ L))) ro) (hok : hmOK x) (hal : ∀ w1, Mem w1 (l1 ++ (Bk x.p (hmC x) 97) :: (rowO 9 x.O ++ (rowO 95 x.S ++ L))) ro → Calls Tryz.prog 129 #[Pt ps, Value.agg f.cells.toArray] w1 fun e w2 => e = .returned (.tuple #[Pt x.p, .bool true]) ∧ Later w1 w2) (hs : f.txt.size ≤ 4000000) (hlen : x.g.oth.length ≤ 10000000 ∧ x.g.spl.length ≤ 10000000) {w0 : World} (hro : (w0, fun _ => True) ∈ ro) (hL : LD w0) :
  Calls Tryz.prog 108 #[Pt ps, Value.agg f.cells.toArray] w fun e w' => e = .returned (.bool true) ∧ ∃ y : HM, (hmOK y ∧ y.p = x.p ∧ y.g = { x.g with into := f.to }) ∧ Mem w' (l1 ++ (Bk x.p (hmC y) 97) :: (rowO 9 y.O ++ (rowO 95 y.S ++ L))) ro := by
 refine enter_in hm (vs := [Pt ps, Value.agg f.cells.toArray]) Tryz.func108 rfl Tryz.ntmps108 rfl ?_
 refine Zs (Zr ?_)
 refine x_box rfl rfl rfl rfl ?_
 intro p3
 refine Xa ?_
 refine Ze (Zt (Zs (Zr ?_)))
 refine Xm ?_
 refine Xv rfl (v_load_blk u28 rfl rfl (.head _) (by exact sz28)) ?_
 refine x_callv rfl rfl rfl Tryz.func129 Zk rfl (fun w1 hw1 => hal w1 (hw1.less (List.sublist_cons_self _ _) (fun _ h => h))) ?_
 refine Xm ?_
 refine Xe ?_
 refine Xb rfl (v_extract rfl rfl) fun b12 hb12 => ?_
 obtain rfl : b12 = true := hb12
 refine Xa ?_
 refine Xa ?_
 refine Ze (Zt (Zs (Zs (Zr ?_))))
 refine Xm ?_
 refine Ze (Zt ?_)
 refine w_cond rfl (fun hc13 => ?_) fun hc13 => ?_
 ·skip
  refine Zr ?_
  refine Xm ?_
  refine Xf 4 rfl u28 rfl sz3 ?_
  refine Xl rfl u3 rfl (at_ownL (vs := f.cells) (.head _) rfl) ?_
  refine Xn ?_
  refine Xf _ rfl u97 rfl sz3 ?_
  refine x_store (cs := hmC x) (off := 4) (e := 97) (l2 := (rowO 9 x.O ++ (rowO 95 x.S ++ L))) ((Bk p3 f.cells 28) :: l1) rfl rfl rfl rfl sz3 rfl (by show 4 + 1 ≤ 5; decide) ?_
  refine Ze (Zt (Zs (Zr ?_)))
  refine Xm ?_
  refine Xa ?_
  refine Ze (Zt (w_ret ?_))
  exact ret1 rfl rfl (fun w' hm' => ⟨rfl, ⟨{ x.g with into := f.to }, x.p, x.O, x.S⟩, ⟨⟨hok.1, hok.2⟩, rfl, rfl⟩, (hm'.less (List.sublist_cons_self _ _) (fun _ h => h)).to (by simp [hmC]; rfl)⟩)
 cases hc13
set_option maxHeartbeats 1000000 in
theorem k_splitA {ps : Nat} {f : FD} {x : HM} {l1 L : List (Nat × Obj)} {ro : List Snap} {w : World} (hm : Mem w (l1 ++ (Bk x.p (hmC x) 97) :: (rowO 9 x.O ++ (rowO 95 x.S ++ L))) ro) (hok : hmOK x) (hal : ∀ w1, Mem w1 (l1 ++ (Bk x.p (hmC x) 97) :: (rowO 9 x.O ++ (rowO 95 x.S ++ L))) ro → Calls Tryz.prog 129 #[Pt ps, Value.agg f.cells.toArray] w1 fun e w2 => e = .returned (.tuple #[Pt x.p, .bool true]) ∧ Later w1 w2) (hs : f.txt.size ≤ 4000000) (hlen : x.g.oth.length ≤ 10000000 ∧ x.g.spl.length ≤ 10000000) {w0 : World} (hro : (w0, fun _ => True) ∈ ro) (hL : LD w0) :
  Calls Tryz.prog 109 #[Pt ps, Value.agg f.cells.toArray] w fun e w' => e = .returned (.bool true) ∧ ∃ y : HM, (hmOK y ∧ y.p = x.p ∧ y.g = { x.g with spl := x.g.spl ++ [(foldS f.txt, f.to)] }) ∧ Mem w' (l1 ++ (Bk x.p (hmC y) 97) :: (rowO 9 y.O ++ (rowO 95 y.S ++ L))) ro := by
 refine enter_in hm (vs := [Pt ps, Value.agg f.cells.toArray]) Tryz.func109 rfl Tryz.ntmps109 rfl ?_
 refine Zs (Zr ?_)
 refine x_box rfl rfl rfl rfl ?_
 intro p3
 refine Xa ?_
 refine Ze (Zt (Zs (Zr ?_)))
 refine Xm ?_
 refine Xv rfl (v_load_blk u28 rfl rfl (.head _) (by exact sz28)) ?_
 refine x_callv rfl rfl rfl Tryz.func129 Zk rfl (fun w1 hw1 => hal w1 (hw1.less (List.sublist_cons_self _ _) (fun _ h => h))) ?_
 refine Xm ?_
 refine Xe ?_
 refine Xb rfl (v_extract rfl rfl) fun b12 hb12 => ?_
 obtain rfl : b12 = true := hb12
 refine Xa ?_
 refine Xa ?_
 refine Ze (Zt (Zs (Zs (Zr ?_))))
 refine Xm ?_
 refine Ze (Zt ?_)
 refine w_cond rfl (fun hc13 => ?_) fun hc13 => ?_
 ·skip
  refine rg_inv ([(Bk p3 f.cells 28), (Bk x.p (hmC x) 97)]) 15 (.flt 0 (.flt 1 (.flt 2 (.flt 3 (.flt 4 (.flt 5 (.flt 6 (.flt 7 (.flt 8 (.flt 9 (.flt 10 (.gr 11 (.gr 12 (.flt 13 (.flt 14 .done)) .nil) .nil)))))))))))) ((List.singleton_sublist.2 (by simp)).cons_cons _) Zk Zk ?_
  refine j_val rfl rfl (v_move rfl) ?_
  refine j_val rfl rfl (v_move rfl) ?_
  refine j_val rfl rfl (v_nilCheck rfl) ?_
  refine j_val rfl rfl (v_fieldAddr u97 rfl sz93 (by decide) rfl rfl) ?_
  refine j_val rfl rfl (v_load u93 rfl rfl (at_ownL (vs := hmC x) (.tail _ (.head _)) rfl)) ?_
  refine j_val rfl rfl (v_fieldAddr (off' := 5) u28 rfl sz9 (by decide) rfl rfl) ?_
  refine j_val rfl rfl (v_load u9 rfl rfl (at_ownL (vs := f.cells) (.head _) rfl)) ?_
  refine j_callv rfl rfl Tryz.func49 Zk rfl (fun w1 hw1 => k_Fold f.txt w1 hs (hL.later (hw1.base hro))) ?_
  refine j_val rfl rfl (v_fieldAddr (off' := 4) u28 rfl sz3 (by decide) rfl rfl) ?_
  refine j_val rfl rfl (v_load u3 rfl rfl (at_ownL (vs := f.cells) (.head _) rfl)) ?_
  refine j_val (v := Value.agg (splC (foldS f.txt, f.to)).toArray) rfl rfl (v_buildL (cs := splC (foldS f.txt, f.to)) (places := [(0, 1), (1, 1)]) u95 zr95 Zk rfl rfl) ?_
  refine j_gr ?_ j_nil
  refine x_buildSliceL (cs := splC (foldS f.txt, f.to)) rfl rfl rfl u93 sz95 zr95 rfl rfl rfl ?_
  intro p25
  refine Ze ?_
  refine j_end (((List.singleton_sublist.2 (by simp)).cons_cons _).cons _) ?_
  refine j_gr ?_ j_nil
  refine x_append (e := 95) ((Bk p25 (splC (foldS f.txt, f.to)) 95) :: (Bk p3 f.cells 28) :: (l1 ++ (Bk x.p (hmC x) 97) :: rowO 9 x.O)) (l2 := L) x.S (len := x.g.spl.length) (xs := x.g.spl.flatMap splC) rfl rfl rfl rfl (by simp; rfl) hok.2 u93 ap95 rfl rfl (m := 1) (news := splC (foldS f.txt, f.to)) (fun i hi => at_ownL (vs := splC (foldS f.txt, f.to)) (.head _) (by rw [Nat.zero_add]; exact List.getElem?_eq_getElem hi)) rfl Zx (by omega) fun R' hR' => ?_
  refine Ze ?_
  refine j_end (((List.singleton_sublist.2 (by simp)).cons_cons _).cons _) ?_
  refine j_val rfl rfl (v_nilCheck rfl) ?_
  refine j_val rfl rfl (v_fieldAddr u97 rfl sz93 (by decide) rfl rfl) ?_
  refine j_done ?_
  refine x_store (cs := hmC x) (off := 3) (e := 97) (l2 := rowO 9 x.O ++ (rowO 95 R' ++ L)) ((Bk p25 (splC (foldS f.txt, f.to)) 95) :: (Bk p3 f.cells 28) :: l1) rfl rfl rfl (by simp) sz93 rfl (by show 3 + 1 ≤ 5; decide) ?_
  refine Ze (Zt (Zs (Zr ?_)))
  refine Xm ?_
  refine Xa ?_
  refine Ze (Zt (w_ret ?_))
  exact ret1 rfl rfl (fun w' hm' => ⟨rfl, ⟨{ x.g with spl := x.g.spl ++ [(foldS f.txt, f.to)] }, x.p, x.O, R'⟩, ⟨⟨hok.1, by dsimp only; rw [List.length_append, List.flatMap_append]; exact (by simpa using hR')⟩, rfl, rfl⟩, (hm'.less ((List.sublist_cons_self _ _).trans (List.sublist_cons_self _ _)) (fun _ h => h)).to (by simp [hmC]; rfl)⟩)
 cases hc13
noncomputable def rF0 : Value → Option Value := fun _ => none
noncomputable def rF1 : Value → Option Value := fupd rF0 (Vi 1) (.func (.func 105) #[] #[])
noncomputable def rF2 : Value → Option Value := fupd rF1 (Vi 2) (.func (.func 106) #[] #[])
noncomputable def rF3 : Value → Option Value := fupd rF2 (Vi 3) (.func (.func 107) #[] #[])
noncomputable def rF4 : Value → Option Value := fupd rF3 (Vi 4) (.func (.func 108) #[] #[])
noncomputable def rF5 : Value → Option Value := fupd rF4 (Vi 5) (.func (.func 109) #[] #[])
set_option maxHeartbeats 1000000 in
theorem k_rules (w : World) :
  Calls Tryz.prog 80 #[] w fun e w' => ∃ mR es ck, e = .returned (.map (some mR)) ∧ MapF Tryz.prog 3 es rF5 ∧ Later w w' ∧ Mem w' [(mR, .map es ck)] [(w, fun _ => True)] := by
 refine enter (vs := []) Tryz.func80 rfl Tryz.ntmps80 rfl ?_
 refine Zs (Zr ?_)
 refine Xa ?_
 refine Ze (Zt (Zs (Zr ?_)))
 refine x_makeMap rfl rfl rfl ?_
 intro p1
 have hmf0 : MapF Tryz.prog 3 #[] rF0 := MapF.empty
 refine x_insert (f := rF0) (u := Vi 1) (v := .func (.func 105) #[] #[]) [] rfl rfl rfl rfl u124 (Maps.int_keyed u3) (Maps.keyOf_int_mk u3 (wf_in (by unfold in64; omega))) rfl hmf0 ?_
 intro es1 ck1 hmf1
 refine x_insert (f := rF1) (u := Vi 2) (v := .func (.func 106) #[] #[]) [] rfl rfl rfl rfl u124 (Maps.int_keyed u3) (Maps.keyOf_int_mk u3 (wf_in (by unfold in64; omega))) rfl hmf1 ?_
 intro es2 ck2 hmf2
 refine x_insert (f := rF2) (u := Vi 3) (v := .func (.func 107) #[] #[]) [] rfl rfl rfl rfl u124 (Maps.int_keyed u3) (Maps.keyOf_int_mk u3 (wf_in (by unfold in64; omega))) rfl hmf2 ?_
 intro es3 ck3 hmf3
 refine x_insert (f := rF3) (u := Vi 4) (v := .func (.func 108) #[] #[]) [] rfl rfl rfl rfl u124 (Maps.int_keyed u3) (Maps.keyOf_int_mk u3 (wf_in (by unfold in64; omega))) rfl hmf3 ?_
 intro es4 ck4 hmf4
 refine x_insert (f := rF4) (u := Vi 5) (v := .func (.func 109) #[] #[]) [] rfl rfl rfl rfl u124 (Maps.int_keyed u3) (Maps.keyOf_int_mk u3 (wf_in (by unfold in64; omega))) rfl hmf4 ?_
 intro es5 ck5 hmf5
 refine Xm ?_
 refine Xa ?_
 refine Ze (Zt (w_ret ?_))
 exact ret1 rfl rfl (fun w' hm => ⟨p1, es5, ck5, rfl, hmf5, hm.base (by simp), hm⟩)
theorem int_ne {a b : Int} (h : a ≠ b) : Vi a ≠ Vi b := fun e => h (by injection e)
theorem rule1 : (rF5 (Vi 1)).getD .nilFunc = .func (.func 105) #[] #[] := by
 unfold rF5
 rw [fupd_ne (int_ne (by decide))]
 unfold rF4
 rw [fupd_ne (int_ne (by decide))]
 unfold rF3
 rw [fupd_ne (int_ne (by decide))]
 unfold rF2
 rw [fupd_ne (int_ne (by decide))]
 unfold rF1
 rw [fupd_self]; rfl
theorem rule2 : (rF5 (Vi 2)).getD .nilFunc = .func (.func 106) #[] #[] := by
 unfold rF5
 rw [fupd_ne (int_ne (by decide))]
 unfold rF4
 rw [fupd_ne (int_ne (by decide))]
 unfold rF3
 rw [fupd_ne (int_ne (by decide))]
 unfold rF2
 rw [fupd_self]; rfl
theorem rule3 : (rF5 (Vi 3)).getD .nilFunc = .func (.func 107) #[] #[] := by
 unfold rF5
 rw [fupd_ne (int_ne (by decide))]
 unfold rF4
 rw [fupd_ne (int_ne (by decide))]
 unfold rF3
 rw [fupd_self]; rfl
theorem rule4 : (rF5 (Vi 4)).getD .nilFunc = .func (.func 108) #[] #[] := by
 unfold rF5
 rw [fupd_ne (int_ne (by decide))]
 unfold rF4
 rw [fupd_self]; rfl
theorem rule5 : (rF5 (Vi 5)).getD .nilFunc = .func (.func 109) #[] #[] := by
 unfold rF5
 rw [fupd_self]; rfl
open Go.RowKit Go.PK
theorem ap28 : (Tryz.prog.info? 28).map (fun j => (j.zero, j.size, j.bytes)) = some (some (.agg #[Vi 0, Vi 0, Vi 0, Vi 0, Vi 0, .string ⟨#[]⟩]), 6, 56) := by kernel_rfl
theorem hm_some {hs : List HM} {id : Int} {y : HM} (h : lkM8 hs id = some y) : hmM hs (Vi id) = some (Pt y.p) := by
 show (lkM8 hs id).map _ = _
 rw [h]; rfl
theorem hm_no {hs : List HM} {id : Int} (h : lkM8 hs id = none) : hmM hs (Vi id) = none := by
 show (lkM8 hs id).map _ = _
 rw [h]; rfl
structure NM where
  mN : Nat
  esN : Array MapEntry
  ckN : Nat
  mA : Nat
  esA : Array MapEntry
  ckA : Nat
structure SM where
  ps : Nat
  mH : Nat
  es : Array MapEntry
  ck : Nat
  hs : List HM
  R : RowS
  N : Option NM
  al : Value
def nmV (N : Option NM) : Value := match N with | none => .map none | some y => .map (some y.mN)
def nmO (N : Option NM) : List (Nat × Obj) := match N with | none => [] | some y => [(y.mN, .map y.esN y.ckN), (y.mA, .map y.esA y.ckA)]
def smC (x : SM) (n : Nat) : List Value := [.map (some x.mH), rowV x.R n, nmV x.N, x.al]
def hmO (x : HM) : List (Nat × Obj) := (Bk x.p (hmC x) 97) :: (rowO 9 x.O ++ rowO 95 x.S)
def HO (hs : List HM) : List (Nat × Obj) := hs.flatMap hmO
def SO (x : SM) (n : Nat) : List (Nat × Obj) := (Bk x.ps (smC x n) 91) :: (x.mH, Obj.map x.es x.ck) :: (HO x.hs ++ (rowO 28 x.R ++ nmO x.N))
structure SOK (x : SM) (s : SG8) : Prop where
  hs : gs8 x.hs = s.hs
  ok : ∀ h ∈ x.hs, hmOK h
  mc : MapC Tryz.prog 3 x.es x.ck (hmM x.hs)
  rf : rowOK 6 x.R s.ref.length (s.ref.flatMap FD.cells)
  ids : ∀ h ∈ x.hs, in64 h.g.id
theorem HO_app (a c : List HM) : HO (a ++ c) = HO a ++ HO c := List.flatMap_append
theorem HO_cons (x : HM) (c : List HM) : HO (x :: c) = (Bk x.p (hmC x) 97) :: (rowO 9 x.O ++ (rowO 95 x.S ++ HO c)) := by
 unfold HO
 rw [List.flatMap_cons]
 show _ :: ((rowO 9 x.O ++ rowO 95 x.S) ++ _) = _
 rw [List.append_assoc]
theorem SO_split {x : SM} {a c : List HM} {y : HM} (h : x.hs = a ++ y :: c) (n : Nat) (L : List (Nat × Obj)) : SO x n ++ L = ((Bk x.ps (smC x n) 91) :: (x.mH, Obj.map x.es x.ck) :: HO a) ++ (Bk y.p (hmC y) 97) :: (rowO 9 y.O ++ (rowO 95 y.S ++ (HO c ++ ((rowO 28 x.R ++ nmO x.N) ++ L)))) := by
 unfold SO
 rw [h, HO_app, HO_cons]
 simp only [List.cons_append, List.append_assoc]
theorem SOK.rd {x : SM} {s : SG8} (h : SOK x s) {w : World} {n : Nat} {L : List (Nat × Obj)} {ro : List Snap} (hm : Mem w (SO x n ++ L) ro) : RdS w x.ps x.mH x.es x.ck x.hs where
 st := at_ownL (vs := smC x n) (.head _) rfl w hm
 mp := hm.own_at (x.mH, Obj.map x.es x.ck) (.tail _ (.head _))
 mf := h.mc.f
 hd := fun y hy => by
  obtain ⟨a, c, h1⟩ := List.append_of_mem hy
  have hm2 := hm.to (SO_split h1 n L)
  exact hm2.own_at (y.p, _) (List.mem_append_right _ (.head _))
 rows := fun y hy q hq => by
  obtain ⟨a, c, h1⟩ := List.append_of_mem hy
  have hm2 := hm.to (SO_split h1 n L)
  refine hm2.own_at q (List.mem_append_right _ (.tail _ ?_))
  rcases List.mem_append.1 hq with hq | hq
  ·exact List.mem_append_left _ hq
  exact List.mem_append_right _ (List.mem_append_left _ hq)
 ok := h.ok
 ids := h.ids
theorem SOK.set {x : SM} {s : SG8} (h : SOK x s) {a c : List HM} {y y' : HM} (hx : x.hs = a ++ y :: c) (ha : ∀ z ∈ a, z.g.id ≠ y.g.id) (hp : y'.p = y.p) (hi : y'.g.id = y.g.id) (hok : hmOK y') : SOK { x with hs := a ++ y' :: c } ⟨setH s.hs y'.g, s.ref⟩ where
 hs := by
  rw [← h.hs, hx, setH_split (fun z hz => by rw [hi]; exact ha z hz) hi.symm]
  show gs8 (a ++ y' :: c) = _
  unfold gs8
  rw [List.map_append, List.map_cons]
 ok := fun z hz => by
  rcases List.mem_append.1 hz with hz | hz
  ·exact h.ok z (by rw [hx]; exact List.mem_append_left _ hz)
  rcases List.mem_cons.1 hz with rfl | hz
  ·exact hok
  exact h.ok z (by rw [hx]; exact List.mem_append_right _ (.tail _ hz))
 mc := by
  have := h.mc
  rw [hx, ← hmM_set (x' := y') hp hi] at this
  exact this
 rf := h.rf
 ids := fun z hz => by
  rcases List.mem_append.1 hz with hz | hz
  ·exact h.ids z (by rw [hx]; exact List.mem_append_left _ hz)
  rcases List.mem_cons.1 hz with rfl | hz
  ·rw [hi]; exact h.ids y (by rw [hx]; simp)
  exact h.ids z (by rw [hx]; exact List.mem_append_right _ (.tail _ hz))
def ruleP (x : SM) (s : SG8) (f : FD) (L : List (Nat × Obj)) (ro : List Snap) (e : Ending) (w' : World) : Prop :=
  e = .returned (.bool (accS s.hs f).isSome) ∧ ∃ x' : SM, (SOK x' ⟨(accS s.hs f).getD s.hs, s.ref⟩ ∧ x'.ps = x.ps ∧ x'.N = x.N ∧ x'.al = x.al) ∧ Mem w' (SO x' s.ref.length ++ L) ro
theorem ruleP.no {x : SM} {s : SG8} {f : FD} {L : List (Nat × Obj)} {ro : List Snap} {w w2 : World} {e : Ending} (hk : SOK x s) (hm : Mem w (SO x s.ref.length ++ L) ro) (ha : accS s.hs f = none) (h : e = .returned (.bool false) ∧ Later w w2) : ruleP x s f L ro e w2 := by
 unfold ruleP
 rw [ha]
 exact ⟨h.1, x, ⟨hk, rfl, rfl, rfl⟩, hm.later h.2⟩
theorem lkS {x : SM} {s : SG8} (h : SOK x s) (id : Int) : lkH s.hs id = (lkM8 x.hs id).map (·.g) := by rw [← h.hs]; exact lkM8_g _ _
theorem k_do1 {x : SM} {s : SG8} {f : FD} {L : List (Nat × Obj)} {ro : List Snap} {w w0 : World} (hk : SOK x s) (ha : Acy s.hs) (hb : bndS 10000 s) (hin : in64 f.hd ∧ in64 f.to) (hs : f.txt.size ≤ 4000000) (hm : Mem w (SO x s.ref.length ++ L) ro) (hro : (w0, fun _ => True) ∈ ro) (hL : LD w0) (hkd : f.kind = 1) :
  Calls Tryz.prog 105 #[Pt x.ps, Value.agg f.cells.toArray] w fun e w' => ruleP x s f L ro e w' := by
 have hR := hk.rd hm
 have hlk := lkS hk f.hd
 have hacc := acc_new (hs := s.hs) hkd
 cases hq : lkM8 x.hs f.hd with
 | some y =>
  rw [hq] at hlk
  rw [hlk] at hacc
  exact (k_createN (f := f) w hR.st hR.mp hR.mf hin.1 (hm_some hq)).mono fun e w2 h => ruleP.no hk hm hacc h
 | none =>
  rw [hq] at hlk
  rw [hlk] at hacc
  refine (k_createA (f := f) (rf := rowV x.R s.ref.length) (nv := nmV x.N) (av := x.al) (L := (HO x.hs ++ (rowO 28 x.R ++ nmO x.N)) ++ L) (hm.to rfl) hk.mc hin.1 (hm_no hq) hs hro hL).mono fun e w2 ⟨h1, z, h2, h3⟩ => ?_
  unfold ruleP
  rw [hacc]
  have hno : lkM8 x.hs f.hd = none := hq
  refine ⟨h1, { x with es := z.1, ck := z.2.1, hs := x.hs ++ [⟨⟨f.hd, f.txt, [], [], 0⟩, z.2.2, none, none⟩] }, ⟨⟨?_, fun y hy => ?_, ?_, hk.rf, fun y hy => ?_⟩, rfl, rfl, rfl⟩, ?_⟩
  ·show gs8 (x.hs ++ _) = s.hs ++ _
   rw [← hk.hs]
   unfold gs8
   rw [List.map_append]; rfl
  ·rcases List.mem_append.1 hy with hy | hy
   ·exact hk.ok y hy
   rw [List.mem_singleton.1 hy]; exact ⟨rowOK_nil, rowOK_nil⟩
  ·show MapC _ _ _ _ (hmM (x.hs ++ _))
   rw [hmM_snoc (x := ⟨⟨f.hd, f.txt, [], [], 0⟩, z.2.2, none, none⟩) hno]
   exact h2
  ·rcases List.mem_append.1 hy with hy | hy
   ·exact hk.ids y hy
   rw [List.mem_singleton.1 hy]; exact hin.1
  refine h3.perm ?_
  show ((z.2.2, _) :: (x.ps, _) :: (x.mH, _) :: ((HO x.hs ++ (rowO 28 x.R ++ nmO x.N)) ++ L)).Perm ((x.ps, _) :: (x.mH, _) :: (HO (x.hs ++ [_]) ++ (rowO 28 x.R ++ nmO x.N)) ++ L)
  rw [HO_app, HO_cons]
  simp only [rowO, List.nil_append, List.append_assoc, List.cons_append]
  exact ((List.Perm.swap _ _ _).trans ((List.Perm.swap _ _ _).cons _)).trans (((List.perm_middle (l₁ := HO x.hs)).symm.cons _).cons _)
theorem k_do2 {x : SM} {s : SG8} {f : FD} {L : List (Nat × Obj)} {ro : List Snap} {w w0 : World} (hk : SOK x s) (ha : Acy s.hs) (hb : bndS 10000 s) (hin : in64 f.hd ∧ in64 f.to) (hs : f.txt.size ≤ 4000000) (hm : Mem w (SO x s.ref.length ++ L) ro) (hro : (w0, fun _ => True) ∈ ro) (hL : LD w0) (hkd : f.kind = 2) :
  Calls Tryz.prog 106 #[Pt x.ps, Value.agg f.cells.toArray] w fun e w' => ruleP x s f L ro e w' := by
 have hR := hk.rd hm
 have hlk := lkS hk f.hd
 cases hq : lkM8 x.hs f.hd with
 | none =>
  rw [hq] at hlk
  exact (k_renameN (f := f) w (fun w1 hl => by
   have h := k_alive w1 (hR.later hl).st (hR.later hl).mp (hR.later hl).mf hin.1 (by unfold hmM; rfl) (fun z hz => (hR.later hl).cell (by obtain ⟨a1, d1, k2, _⟩ := lkM8_split hz; rw [k2]; simp))
   rw [hq] at h
   exact h)).mono fun e w2 h => ruleP.no hk hm (acc_dead (by omega) (fun g hg => by rw [hlk] at hg; cases hg)) h
 | some y =>
  rw [hq] at hlk
  obtain ⟨a, c, h1, h2, h3⟩ := lkM8_split hq
  have hy : y ∈ x.hs := by rw [h1]; simp
  have hbo := hb.oth y.g (by rw [← hk.hs]; exact List.mem_map_of_mem hy)
  by_cases h0 : y.g.into = 0
  case neg => exact (k_renameN (f := f) w (fun w1 hl => by
   have h := k_alive w1 (hR.later hl).st (hR.later hl).mp (hR.later hl).mf hin.1 (by unfold hmM; rfl) (fun z hz => (hR.later hl).cell (by obtain ⟨a1, d1, k2, _⟩ := lkM8_split hz; rw [k2]; simp))
   rw [hq] at h
   rw [show alB (some y) = false from decide_eq_false h0] at h
   exact h)).mono fun e w2 h => ruleP.no hk hm (acc_dead (by omega) (fun g hg => by rw [hlk] at hg; injection hg with hg; rw [← hg]; exact h0)) h
  refine (k_renameA (f := f) (x := y) (l1 := (Bk x.ps (smC x s.ref.length) 91) :: (x.mH, Obj.map x.es x.ck) :: HO a) (L := HO c ++ ((rowO 28 x.R ++ nmO x.N) ++ L)) (hm.to (SO_split h1 _ L)) (hk.ok y hy) (fun w1 hw1 => by
   have h := k_alive w1 (hk.rd (hw1.to (SO_split h1 _ L).symm)).st (hk.rd (hw1.to (SO_split h1 _ L).symm)).mp (hk.rd (hw1.to (SO_split h1 _ L).symm)).mf hin.1 (by unfold hmM; rfl) (fun z hz => (hk.rd (hw1.to (SO_split h1 _ L).symm)).cell (by obtain ⟨a1, d1, k2, _⟩ := lkM8_split hz; rw [k2]; simp))
   rw [hq] at h
   rw [show alB (some y) = true from decide_eq_true h0] at h
   exact h) hs ⟨by omega, by omega⟩ hro hL).mono fun e w2 ⟨h4, y', ⟨h5, h6, h7⟩, h8⟩ => ?_
  unfold ruleP
  rw [acc_name hkd hlk h0]
  rw [← h2] at h3
  have hset := hk.set (y' := y') h1 h3 h6 (by rw [h7]) h5
  rw [h7] at hset
  exact ⟨h4, _, ⟨hset, rfl, rfl, rfl⟩, h8.to (by rw [← h6]; exact (SO_split (x := { x with hs := a ++ y' :: c }) rfl _ L).symm)⟩
theorem k_do3 {x : SM} {s : SG8} {f : FD} {L : List (Nat × Obj)} {ro : List Snap} {w w0 : World} (hk : SOK x s) (ha : Acy s.hs) (hb : bndS 10000 s) (hin : in64 f.hd ∧ in64 f.to) (hs : f.txt.size ≤ 4000000) (hm : Mem w (SO x s.ref.length ++ L) ro) (hro : (w0, fun _ => True) ∈ ro) (hL : LD w0) (hkd : f.kind = 3) :
  Calls Tryz.prog 107 #[Pt x.ps, Value.agg f.cells.toArray] w fun e w' => ruleP x s f L ro e w' := by
 have hR := hk.rd hm
 have hlk := lkS hk f.hd
 cases hq : lkM8 x.hs f.hd with
 | none =>
  rw [hq] at hlk
  exact (k_seeN (f := f) w (fun w1 hl => by
   have h := k_alive w1 (hR.later hl).st (hR.later hl).mp (hR.later hl).mf hin.1 (by unfold hmM; rfl) (fun z hz => (hR.later hl).cell (by obtain ⟨a1, d1, k2, _⟩ := lkM8_split hz; rw [k2]; simp))
   rw [hq] at h
   exact h)).mono fun e w2 h => ruleP.no hk hm (acc_dead (by omega) (fun g hg => by rw [hlk] at hg; cases hg)) h
 | some y =>
  rw [hq] at hlk
  obtain ⟨a, c, h1, h2, h3⟩ := lkM8_split hq
  have hy : y ∈ x.hs := by rw [h1]; simp
  have hbo := hb.oth y.g (by rw [← hk.hs]; exact List.mem_map_of_mem hy)
  by_cases h0 : y.g.into = 0
  case neg => exact (k_seeN (f := f) w (fun w1 hl => by
   have h := k_alive w1 (hR.later hl).st (hR.later hl).mp (hR.later hl).mf hin.1 (by unfold hmM; rfl) (fun z hz => (hR.later hl).cell (by obtain ⟨a1, d1, k2, _⟩ := lkM8_split hz; rw [k2]; simp))
   rw [hq] at h
   rw [show alB (some y) = false from decide_eq_false h0] at h
   exact h)).mono fun e w2 h => ruleP.no hk hm (acc_dead (by omega) (fun g hg => by rw [hlk] at hg; injection hg with hg; rw [← hg]; exact h0)) h
  refine (k_seeA (f := f) (x := y) (l1 := (Bk x.ps (smC x s.ref.length) 91) :: (x.mH, Obj.map x.es x.ck) :: HO a) (L := HO c ++ ((rowO 28 x.R ++ nmO x.N) ++ L)) (hm.to (SO_split h1 _ L)) (hk.ok y hy) (fun w1 hw1 => by
   have h := k_alive w1 (hk.rd (hw1.to (SO_split h1 _ L).symm)).st (hk.rd (hw1.to (SO_split h1 _ L).symm)).mp (hk.rd (hw1.to (SO_split h1 _ L).symm)).mf hin.1 (by unfold hmM; rfl) (fun z hz => (hk.rd (hw1.to (SO_split h1 _ L).symm)).cell (by obtain ⟨a1, d1, k2, _⟩ := lkM8_split hz; rw [k2]; simp))
   rw [hq] at h
   rw [show alB (some y) = true from decide_eq_true h0] at h
   exact h) hs ⟨by omega, by omega⟩ hro hL).mono fun e w2 ⟨h4, y', ⟨h5, h6, h7⟩, h8⟩ => ?_
  unfold ruleP
  rw [acc_see hkd hlk h0]
  rw [← h2] at h3
  have hset := hk.set (y' := y') h1 h3 h6 (by rw [h7]) h5
  rw [h7] at hset
  exact ⟨h4, _, ⟨hset, rfl, rfl, rfl⟩, h8.to (by rw [← h6]; exact (SO_split (x := { x with hs := a ++ y' :: c }) rfl _ L).symm)⟩
theorem k_do4 {x : SM} {s : SG8} {f : FD} {L : List (Nat × Obj)} {ro : List Snap} {w w0 : World} (hk : SOK x s) (ha : Acy s.hs) (hb : bndS 10000 s) (hin : in64 f.hd ∧ in64 f.to) (hs : f.txt.size ≤ 4000000) (hm : Mem w (SO x s.ref.length ++ L) ro) (hro : (w0, fun _ => True) ∈ ro) (hL : LD w0) (hkd : f.kind = 4) :
  Calls Tryz.prog 108 #[Pt x.ps, Value.agg f.cells.toArray] w fun e w' => ruleP x s f L ro e w' := by
 have hR := hk.rd hm
 have hlk := lkS hk f.hd
 have hlt := lkS hk f.to
 have hsl : ∀ y ∈ x.hs, y.g.spl.length ≤ 10000000 := fun y hy => by
  have := (hb.oth y.g (by rw [← hk.hs]; exact List.mem_map_of_mem hy)).2
  omega
 cases hmy : mayB x.hs f with
 | false =>
  refine (k_mergeN (f := f) w (fun w1 hl => by have h := k_may (hs := x.hs) (f := f) w1 (hR.later hl) (by rw [hk.hs]; exact ha) hin hsl; rw [hmy] at h; exact h)).mono fun e w2 h => ruleP.no hk hm ?_ h
  unfold mayB at hmy
  by_cases h1 : alB (lkM8 x.hs f.hd) = true
  ·refine acc_may (by omega) ?_
   rw [h1, Bool.true_and] at hmy
   cases hq2 : lkM8 x.hs f.to with
   | none => rw [hq2] at hlt; exact .inl hlt
   | some z => rw [hq2, hk.hs] at hmy; exact .inr (by simpa using hmy)
  refine acc_dead (by omega) fun g hg => ?_
  rw [hlk] at hg
  cases hq : lkM8 x.hs f.hd with
  | none => rw [hq] at hg; cases hg
  | some y =>
   rw [hq] at hg h1
   injection hg with hg
   unfold alB at h1
   rw [← hg]
   exact of_decide_eq_false (by simpa using h1)
 | true =>
  have hmy2 := hmy
  unfold mayB at hmy2
  simp only [Bool.and_eq_true, Bool.not_eq_true'] at hmy2
  obtain ⟨⟨m1, m2⟩, m3⟩ := hmy2
  rw [hk.hs] at m3
  cases hq : lkM8 x.hs f.hd with
  | none => rw [hq] at m1; cases m1
  | some y =>
   rw [hq] at hlk m1
   unfold alB at m1
   have h0 : y.g.into = 0 := of_decide_eq_true m1
   have hto : (lkH s.hs f.to).isSome = true := by
    rw [hlt]
    cases hq2 : lkM8 x.hs f.to with
    | none => rw [hq2] at m2; cases m2
    | some z => rfl
   obtain ⟨a, c, h1, h2, h3⟩ := lkM8_split hq
   have hy : y ∈ x.hs := by rw [h1]; simp
   have hbo := hb.oth y.g (by rw [← hk.hs]; exact List.mem_map_of_mem hy)
   refine (k_mergeA (f := f) (x := y) (l1 := (Bk x.ps (smC x s.ref.length) 91) :: (x.mH, Obj.map x.es x.ck) :: HO a) (L := HO c ++ ((rowO 28 x.R ++ nmO x.N) ++ L)) (hm.to (SO_split h1 _ L)) (hk.ok y hy) (fun w1 hw1 => by have h := k_may (hs := x.hs) (f := f) w1 (hk.rd (hw1.to (SO_split h1 _ L).symm)) (by rw [hk.hs]; exact ha) hin hsl; rw [hmy, hq] at h; exact h) hs ⟨by omega, by omega⟩ hro hL).mono fun e w2 ⟨h4, y', ⟨h5, h6, h7⟩, h8⟩ => ?_
   unfold ruleP
   rw [acc_merge hkd hlk h0 hto m3]
   rw [← h2] at h3
   have hset := hk.set (y' := y') h1 h3 h6 (by rw [h7]) h5
   rw [h7] at hset
   exact ⟨h4, _, ⟨hset, rfl, rfl, rfl⟩, h8.to (by rw [← h6]; exact (SO_split (x := { x with hs := a ++ y' :: c }) rfl _ L).symm)⟩
theorem k_do5 {x : SM} {s : SG8} {f : FD} {L : List (Nat × Obj)} {ro : List Snap} {w w0 : World} (hk : SOK x s) (ha : Acy s.hs) (hb : bndS 10000 s) (hin : in64 f.hd ∧ in64 f.to) (hs : f.txt.size ≤ 4000000) (hm : Mem w (SO x s.ref.length ++ L) ro) (hro : (w0, fun _ => True) ∈ ro) (hL : LD w0) (hkd : f.kind = 5) :
  Calls Tryz.prog 109 #[Pt x.ps, Value.agg f.cells.toArray] w fun e w' => ruleP x s f L ro e w' := by
 have hR := hk.rd hm
 have hlk := lkS hk f.hd
 have hlt := lkS hk f.to
 have hsl : ∀ y ∈ x.hs, y.g.spl.length ≤ 10000000 := fun y hy => by
  have := (hb.oth y.g (by rw [← hk.hs]; exact List.mem_map_of_mem hy)).2
  omega
 cases hmy : mayB x.hs f with
 | false =>
  refine (k_splitN (f := f) w (fun w1 hl => by have h := k_may (hs := x.hs) (f := f) w1 (hR.later hl) (by rw [hk.hs]; exact ha) hin hsl; rw [hmy] at h; exact h)).mono fun e w2 h => ruleP.no hk hm ?_ h
  unfold mayB at hmy
  by_cases h1 : alB (lkM8 x.hs f.hd) = true
  ·refine acc_may (by omega) ?_
   rw [h1, Bool.true_and] at hmy
   cases hq2 : lkM8 x.hs f.to with
   | none => rw [hq2] at hlt; exact .inl hlt
   | some z => rw [hq2, hk.hs] at hmy; exact .inr (by simpa using hmy)
  refine acc_dead (by omega) fun g hg => ?_
  rw [hlk] at hg
  cases hq : lkM8 x.hs f.hd with
  | none => rw [hq] at hg; cases hg
  | some y =>
   rw [hq] at hg h1
   injection hg with hg
   unfold alB at h1
   rw [← hg]
   exact of_decide_eq_false (by simpa using h1)
 | true =>
  have hmy2 := hmy
  unfold mayB at hmy2
  simp only [Bool.and_eq_true, Bool.not_eq_true'] at hmy2
  obtain ⟨⟨m1, m2⟩, m3⟩ := hmy2
  rw [hk.hs] at m3
  cases hq : lkM8 x.hs f.hd with
  | none => rw [hq] at m1; cases m1
  | some y =>
   rw [hq] at hlk m1
   unfold alB at m1
   have h0 : y.g.into = 0 := of_decide_eq_true m1
   have hto : (lkH s.hs f.to).isSome = true := by
    rw [hlt]
    cases hq2 : lkM8 x.hs f.to with
    | none => rw [hq2] at m2; cases m2
    | some z => rfl
   obtain ⟨a, c, h1, h2, h3⟩ := lkM8_split hq
   have hy : y ∈ x.hs := by rw [h1]; simp
   have hbo := hb.oth y.g (by rw [← hk.hs]; exact List.mem_map_of_mem hy)
   refine (k_splitA (f := f) (x := y) (l1 := (Bk x.ps (smC x s.ref.length) 91) :: (x.mH, Obj.map x.es x.ck) :: HO a) (L := HO c ++ ((rowO 28 x.R ++ nmO x.N) ++ L)) (hm.to (SO_split h1 _ L)) (hk.ok y hy) (fun w1 hw1 => by have h := k_may (hs := x.hs) (f := f) w1 (hk.rd (hw1.to (SO_split h1 _ L).symm)) (by rw [hk.hs]; exact ha) hin hsl; rw [hmy, hq] at h; exact h) hs ⟨by omega, by omega⟩ hro hL).mono fun e w2 ⟨h4, y', ⟨h5, h6, h7⟩, h8⟩ => ?_
   unfold ruleP
   rw [acc_split hkd hlk h0 hto m3]
   rw [← h2] at h3
   have hset := hk.set (y' := y') h1 h3 h6 (by rw [h7]) h5
   rw [h7] at hset
   exact ⟨h4, _, ⟨hset, rfl, rfl, rfl⟩, h8.to (by rw [← h6]; exact (SO_split (x := { x with hs := a ++ y' :: c }) rfl _ L).symm)⟩
theorem zr123 : (Tryz.prog.info? 123).bind (·.zero) = some (.nilFunc) := by kernel_rfl
theorem perm2 {α : Type} {a c : α} {S L : List α} : (a :: c :: (S ++ L)).Perm (S ++ (a :: c :: L)) := ((List.perm_middle (l₁ := S)).symm.cons a).trans List.perm_middle.symm
set_option maxHeartbeats 2000000 in
theorem k_apply {x : SM} {s : SG8} {f : FD} {L : List (Nat × Obj)} {ro : List Snap} {w w0 : World} (hk : SOK x s) (ha : Acy s.hs) (hb : bndS 10000 s) (hin : in64 f.hd ∧ in64 f.to) (hs : f.txt.size ≤ 4000000) (hm : Mem w (SO x s.ref.length ++ L) ro) (hro : (w0, fun _ => True) ∈ ro) (hL : LD w0) (hkd : 1 ≤ f.kind ∧ f.kind ≤ 5) :
  Calls Tryz.prog 43 #[Pt x.ps, Value.agg f.cells.toArray] w fun e w' => e = .returned (.tuple #[]) ∧ ∃ x' : SM, (SOK x' (applyS s f) ∧ x'.ps = x.ps ∧ x'.N = none) ∧ Mem w' (SO x' (applyS s f).ref.length ++ L) ro := by
 have hkin : in64 f.kind := by unfold in64; omega
 refine enter_in hm (vs := [Pt x.ps, Value.agg f.cells.toArray]) Tryz.func43 rfl Tryz.ntmps43 rfl ?_
 refine Zs (Zr ?_)
 refine x_box rfl rfl rfl rfl ?_
 intro p3
 refine Ze (Zt (Zs ?_))
 refine w_seq_cut (σ := SM) (fun z => SOK z ⟨(accS s.hs f).getD s.hs, s.ref⟩ ∧ z.ps = x.ps) (fun z => [(0, Pt z.ps), (3, Pt p3), (11, Value.bool (!(accS s.hs f).isSome))]) (fun z => (Bk p3 f.cells 28) :: ((Bk z.ps (smC z s.ref.length) 91) :: (z.mH, Obj.map z.es z.ck) :: (HO z.hs ++ (rowO 28 z.R ++ (nmO z.N ++ L))))) (fun z => ro) ?_ ?_
 ·obtain hkd | hkd | hkd | hkd | hkd : f.kind = 1 ∨ f.kind = 2 ∨ f.kind = 3 ∨ f.kind = 4 ∨ f.kind = 5 := by omega
  ·skip
   refine rg_draw 6 [(true, 1), (true, 2), (true, 4), (true, 5), (false, 0), (true, 3)] Zk Zk ?_
   refine Xf 2 rfl u28 rfl sz3 ?_
   refine Xl rfl u3 rfl (at_ownL (vs := f.cells) (.head _) rfl) ?_
   refine Xm ?_
   refine Xv (v := Value.agg f.cells.toArray) rfl (v_load_blk u28 rfl rfl (.head _) (by exact sz28)) ?_
   refine x_own (τ := Nat × Array MapEntry × Nat) (fun z => Value.map (some z.1)) (fun z => MapF Tryz.prog 3 z.2.1 rF5) (fun z => (z.1, Obj.map z.2.1 z.2.2) :: (Bk p3 f.cells 28) :: (SO x s.ref.length ++ L)) rfl rfl rfl Tryz.func80 Zk rfl (fun w1 hw1 => (k_rules w1).mono fun e w2 ⟨mR, es, ck, h1, h2, h3, h4⟩ => ⟨(mR, es, ck), h1, h3, h2, hw1.join2 h4⟩) ?_
   rintro ⟨mR, esR, ckR⟩ hmR
   dsimp only at hmR ⊢
   refine Xv (v := Value.func (.func 105) #[] #[]) rfl (v_lookupH u124 (Maps.int_keyed u3) zr123 rfl rfl (Maps.keyOf_int_mk u3 (wf_in hkin)) (map_own (.head _)) hmR (by rw [hkd]; exact rule1)) ?_
   refine x_turn (τ := SM) (v := .bool (accS s.hs f).isSome) (fst := #[]) (cap := #[]) (fun x' => SOK x' ⟨(accS s.hs f).getD s.hs, s.ref⟩ ∧ x'.ps = x.ps ∧ x'.N = x.N ∧ x'.al = x.al) (fun x' => SO x' s.ref.length ++ ((mR, Obj.map esR ckR) :: (Bk p3 f.cells 28) :: L)) rfl rfl rfl Tryz.func105 Zk rfl (fun w1 hw1 => by
    have h := k_do1 (L := (mR, Obj.map esR ckR) :: (Bk p3 f.cells 28) :: L) hk ha hb hin hs (hw1.perm perm2) hro hL hkd
    unfold ruleP at h
    simpa using h) ?_
   rintro x' ⟨hk', hp', hN', hal'⟩
   refine Xv (v := .bool (!(accS s.hs f).isSome)) rfl (v_not rfl) ?_
   refine Ze ?_
   exact c_norm x' ⟨hk', hp'⟩ (by rw [hp']; exact Zu) (fun w1 h => ((h.less ((List.Sublist.refl _).append (List.sublist_cons_self _ _)) (fun _ h => h)).perm List.perm_middle).to (by simp [SO]))
  ·skip
   refine rg_draw 6 [(true, 1), (true, 2), (true, 4), (true, 5), (false, 0), (true, 3)] Zk Zk ?_
   refine Xf 2 rfl u28 rfl sz3 ?_
   refine Xl rfl u3 rfl (at_ownL (vs := f.cells) (.head _) rfl) ?_
   refine Xm ?_
   refine Xv (v := Value.agg f.cells.toArray) rfl (v_load_blk u28 rfl rfl (.head _) (by exact sz28)) ?_
   refine x_own (τ := Nat × Array MapEntry × Nat) (fun z => Value.map (some z.1)) (fun z => MapF Tryz.prog 3 z.2.1 rF5) (fun z => (z.1, Obj.map z.2.1 z.2.2) :: (Bk p3 f.cells 28) :: (SO x s.ref.length ++ L)) rfl rfl rfl Tryz.func80 Zk rfl (fun w1 hw1 => (k_rules w1).mono fun e w2 ⟨mR, es, ck, h1, h2, h3, h4⟩ => ⟨(mR, es, ck), h1, h3, h2, hw1.join2 h4⟩) ?_
   rintro ⟨mR, esR, ckR⟩ hmR
   dsimp only at hmR ⊢
   refine Xv (v := Value.func (.func 106) #[] #[]) rfl (v_lookupH u124 (Maps.int_keyed u3) zr123 rfl rfl (Maps.keyOf_int_mk u3 (wf_in hkin)) (map_own (.head _)) hmR (by rw [hkd]; exact rule2)) ?_
   refine x_turn (τ := SM) (v := .bool (accS s.hs f).isSome) (fst := #[]) (cap := #[]) (fun x' => SOK x' ⟨(accS s.hs f).getD s.hs, s.ref⟩ ∧ x'.ps = x.ps ∧ x'.N = x.N ∧ x'.al = x.al) (fun x' => SO x' s.ref.length ++ ((mR, Obj.map esR ckR) :: (Bk p3 f.cells 28) :: L)) rfl rfl rfl Tryz.func106 Zk rfl (fun w1 hw1 => by
    have h := k_do2 (L := (mR, Obj.map esR ckR) :: (Bk p3 f.cells 28) :: L) hk ha hb hin hs (hw1.perm perm2) hro hL hkd
    unfold ruleP at h
    simpa using h) ?_
   rintro x' ⟨hk', hp', hN', hal'⟩
   refine Xv (v := .bool (!(accS s.hs f).isSome)) rfl (v_not rfl) ?_
   refine Ze ?_
   exact c_norm x' ⟨hk', hp'⟩ (by rw [hp']; exact Zu) (fun w1 h => ((h.less ((List.Sublist.refl _).append (List.sublist_cons_self _ _)) (fun _ h => h)).perm List.perm_middle).to (by simp [SO]))
  ·skip
   refine rg_draw 6 [(true, 1), (true, 2), (true, 4), (true, 5), (false, 0), (true, 3)] Zk Zk ?_
   refine Xf 2 rfl u28 rfl sz3 ?_
   refine Xl rfl u3 rfl (at_ownL (vs := f.cells) (.head _) rfl) ?_
   refine Xm ?_
   refine Xv (v := Value.agg f.cells.toArray) rfl (v_load_blk u28 rfl rfl (.head _) (by exact sz28)) ?_
   refine x_own (τ := Nat × Array MapEntry × Nat) (fun z => Value.map (some z.1)) (fun z => MapF Tryz.prog 3 z.2.1 rF5) (fun z => (z.1, Obj.map z.2.1 z.2.2) :: (Bk p3 f.cells 28) :: (SO x s.ref.length ++ L)) rfl rfl rfl Tryz.func80 Zk rfl (fun w1 hw1 => (k_rules w1).mono fun e w2 ⟨mR, es, ck, h1, h2, h3, h4⟩ => ⟨(mR, es, ck), h1, h3, h2, hw1.join2 h4⟩) ?_
   rintro ⟨mR, esR, ckR⟩ hmR
   dsimp only at hmR ⊢
   refine Xv (v := Value.func (.func 107) #[] #[]) rfl (v_lookupH u124 (Maps.int_keyed u3) zr123 rfl rfl (Maps.keyOf_int_mk u3 (wf_in hkin)) (map_own (.head _)) hmR (by rw [hkd]; exact rule3)) ?_
   refine x_turn (τ := SM) (v := .bool (accS s.hs f).isSome) (fst := #[]) (cap := #[]) (fun x' => SOK x' ⟨(accS s.hs f).getD s.hs, s.ref⟩ ∧ x'.ps = x.ps ∧ x'.N = x.N ∧ x'.al = x.al) (fun x' => SO x' s.ref.length ++ ((mR, Obj.map esR ckR) :: (Bk p3 f.cells 28) :: L)) rfl rfl rfl Tryz.func107 Zk rfl (fun w1 hw1 => by
    have h := k_do3 (L := (mR, Obj.map esR ckR) :: (Bk p3 f.cells 28) :: L) hk ha hb hin hs (hw1.perm perm2) hro hL hkd
    unfold ruleP at h
    simpa using h) ?_
   rintro x' ⟨hk', hp', hN', hal'⟩
   refine Xv (v := .bool (!(accS s.hs f).isSome)) rfl (v_not rfl) ?_
   refine Ze ?_
   exact c_norm x' ⟨hk', hp'⟩ (by rw [hp']; exact Zu) (fun w1 h => ((h.less ((List.Sublist.refl _).append (List.sublist_cons_self _ _)) (fun _ h => h)).perm List.perm_middle).to (by simp [SO]))
  ·skip
   refine rg_draw 6 [(true, 1), (true, 2), (true, 4), (true, 5), (false, 0), (true, 3)] Zk Zk ?_
   refine Xf 2 rfl u28 rfl sz3 ?_
   refine Xl rfl u3 rfl (at_ownL (vs := f.cells) (.head _) rfl) ?_
   refine Xm ?_
   refine Xv (v := Value.agg f.cells.toArray) rfl (v_load_blk u28 rfl rfl (.head _) (by exact sz28)) ?_
   refine x_own (τ := Nat × Array MapEntry × Nat) (fun z => Value.map (some z.1)) (fun z => MapF Tryz.prog 3 z.2.1 rF5) (fun z => (z.1, Obj.map z.2.1 z.2.2) :: (Bk p3 f.cells 28) :: (SO x s.ref.length ++ L)) rfl rfl rfl Tryz.func80 Zk rfl (fun w1 hw1 => (k_rules w1).mono fun e w2 ⟨mR, es, ck, h1, h2, h3, h4⟩ => ⟨(mR, es, ck), h1, h3, h2, hw1.join2 h4⟩) ?_
   rintro ⟨mR, esR, ckR⟩ hmR
   dsimp only at hmR ⊢
   refine Xv (v := Value.func (.func 108) #[] #[]) rfl (v_lookupH u124 (Maps.int_keyed u3) zr123 rfl rfl (Maps.keyOf_int_mk u3 (wf_in hkin)) (map_own (.head _)) hmR (by rw [hkd]; exact rule4)) ?_
   refine x_turn (τ := SM) (v := .bool (accS s.hs f).isSome) (fst := #[]) (cap := #[]) (fun x' => SOK x' ⟨(accS s.hs f).getD s.hs, s.ref⟩ ∧ x'.ps = x.ps ∧ x'.N = x.N ∧ x'.al = x.al) (fun x' => SO x' s.ref.length ++ ((mR, Obj.map esR ckR) :: (Bk p3 f.cells 28) :: L)) rfl rfl rfl Tryz.func108 Zk rfl (fun w1 hw1 => by
    have h := k_do4 (L := (mR, Obj.map esR ckR) :: (Bk p3 f.cells 28) :: L) hk ha hb hin hs (hw1.perm perm2) hro hL hkd
    unfold ruleP at h
    simpa using h) ?_
   rintro x' ⟨hk', hp', hN', hal'⟩
   refine Xv (v := .bool (!(accS s.hs f).isSome)) rfl (v_not rfl) ?_
   refine Ze ?_
   exact c_norm x' ⟨hk', hp'⟩ (by rw [hp']; exact Zu) (fun w1 h => ((h.less ((List.Sublist.refl _).append (List.sublist_cons_self _ _)) (fun _ h => h)).perm List.perm_middle).to (by simp [SO]))
  skip
  refine rg_draw 6 [(true, 1), (true, 2), (true, 4), (true, 5), (false, 0), (true, 3)] Zk Zk ?_
  refine Xf 2 rfl u28 rfl sz3 ?_
  refine Xl rfl u3 rfl (at_ownL (vs := f.cells) (.head _) rfl) ?_
  refine Xm ?_
  refine Xv (v := Value.agg f.cells.toArray) rfl (v_load_blk u28 rfl rfl (.head _) (by exact sz28)) ?_
  refine x_own (τ := Nat × Array MapEntry × Nat) (fun z => Value.map (some z.1)) (fun z => MapF Tryz.prog 3 z.2.1 rF5) (fun z => (z.1, Obj.map z.2.1 z.2.2) :: (Bk p3 f.cells 28) :: (SO x s.ref.length ++ L)) rfl rfl rfl Tryz.func80 Zk rfl (fun w1 hw1 => (k_rules w1).mono fun e w2 ⟨mR, es, ck, h1, h2, h3, h4⟩ => ⟨(mR, es, ck), h1, h3, h2, hw1.join2 h4⟩) ?_
  rintro ⟨mR, esR, ckR⟩ hmR
  dsimp only at hmR ⊢
  refine Xv (v := Value.func (.func 109) #[] #[]) rfl (v_lookupH u124 (Maps.int_keyed u3) zr123 rfl rfl (Maps.keyOf_int_mk u3 (wf_in hkin)) (map_own (.head _)) hmR (by rw [hkd]; exact rule5)) ?_
  refine x_turn (τ := SM) (v := .bool (accS s.hs f).isSome) (fst := #[]) (cap := #[]) (fun x' => SOK x' ⟨(accS s.hs f).getD s.hs, s.ref⟩ ∧ x'.ps = x.ps ∧ x'.N = x.N ∧ x'.al = x.al) (fun x' => SO x' s.ref.length ++ ((mR, Obj.map esR ckR) :: (Bk p3 f.cells 28) :: L)) rfl rfl rfl Tryz.func109 Zk rfl (fun w1 hw1 => by
   have h := k_do5 (L := (mR, Obj.map esR ckR) :: (Bk p3 f.cells 28) :: L) hk ha hb hin hs (hw1.perm perm2) hro hL hkd
   unfold ruleP at h
   simpa using h) ?_
  rintro x' ⟨hk', hp', hN', hal'⟩
  refine Xv (v := .bool (!(accS s.hs f).isSome)) rfl (v_not rfl) ?_
  refine Ze ?_
  exact c_norm x' ⟨hk', hp'⟩ (by rw [hp']; exact Zu) (fun w1 h => ((h.less ((List.Sublist.refl _).append (List.sublist_cons_self _ _)) (fun _ h => h)).perm List.perm_middle).to (by simp [SO]))
 rintro z ⟨hz, hzp⟩
 refine w_state ([(0, Pt z.ps), (3, Pt p3), (11, Value.bool (!(accS s.hs f).isSome))]) ((Bk p3 f.cells 28) :: ((Bk z.ps (smC z s.ref.length) 91) :: (z.mH, Obj.map z.es z.ck) :: (HO z.hs ++ (rowO 28 z.R ++ (nmO z.N ++ L))))) (ro) ?_
 refine w_cond rfl (fun hc11 => ?_) fun hc11 => ?_
 ·have hno : accS s.hs f = none := by cases hq : accS s.hs f with | none => rfl | some h => rw [hq] at hc11; cases hc11
  rw [hno] at hz
  refine rg_inv ([(Bk p3 f.cells 28), (Bk z.ps (smC z s.ref.length) 91)]) 10 (.flt 0 (.flt 1 (.flt 2 (.flt 3 (.flt 4 (.flt 5 (.gr 6 (.gr 7 (.flt 8 (.flt 9 .done)) .nil) .nil))))))) (((List.nil_sublist _).cons_cons _).cons_cons _) Zk Zk ?_
  refine j_val rfl rfl (v_move rfl) ?_
  refine j_val rfl rfl (v_move rfl) ?_
  refine j_val rfl rfl (v_nilCheck rfl) ?_
  refine j_val rfl rfl (v_fieldAddr (off' := 1) u91 rfl sz24 (by decide) rfl rfl) ?_
  refine j_val rfl rfl (v_load u24 rfl rfl (at_ownL (vs := smC z s.ref.length) (.tail _ (.head _)) rfl)) ?_
  refine j_val rfl rfl (v_load_blk u28 rfl rfl (.head _) (by exact sz28)) ?_
  refine j_gr ?_ j_nil
  refine x_buildSliceL (cs := f.cells) rfl rfl rfl u24 sz28 zr28 rfl rfl rfl ?_
  intro p18
  refine Ze ?_
  refine j_end ((((List.nil_sublist _).cons_cons _).cons_cons _).cons _) ?_
  refine j_gr ?_ j_nil
  refine x_append (e := 28) ((Bk p18 f.cells 28) :: (Bk p3 f.cells 28) :: (Bk z.ps (smC z s.ref.length) 91) :: (z.mH, Obj.map z.es z.ck) :: HO z.hs) (l2 := nmO z.N ++ L) z.R (len := s.ref.length) (xs := s.ref.flatMap FD.cells) rfl rfl rfl rfl (by simp) hz.rf u24 ap28 rfl rfl (m := 1) (news := f.cells) (fun i hi => at_ownL (vs := f.cells) (.head _) (by rw [Nat.zero_add]; exact List.getElem?_eq_getElem hi)) rfl (by have := hb.ref; simp only [maxLen]; omega) (by have := hb.ref; omega) fun R' hR' => ?_
  refine Ze ?_
  refine j_end ((((List.nil_sublist _).cons_cons _).cons_cons _).cons _) ?_
  refine j_val rfl rfl (v_nilCheck rfl) ?_
  refine j_val rfl rfl (v_fieldAddr (off' := 1) u91 rfl sz24 (by decide) rfl rfl) ?_
  refine j_done ?_
  refine x_store (cs := smC z s.ref.length) (off := 1) (e := 91) (l2 := (z.mH, Obj.map z.es z.ck) :: (HO z.hs ++ (rowO 28 R' ++ (nmO z.N ++ L)))) [(Bk p18 f.cells 28), (Bk p3 f.cells 28)] rfl rfl rfl (by simp) sz24 rfl (by show 1 + 1 ≤ 4; decide) ?_
  refine Ze (Zt (Zr ?_))
  refine Xm ?_
  refine Xn ?_
  refine Xf 2 rfl u91 rfl sz89 ?_
  refine x_store (cs := [.map (some z.mH), rowV R' (s.ref.length + 1), nmV z.N, z.al]) (off := 2) (e := 91) (l2 := (z.mH, Obj.map z.es z.ck) :: (HO z.hs ++ (rowO 28 R' ++ (nmO z.N ++ L)))) [(Bk p18 f.cells 28), (Bk p3 f.cells 28)] rfl rfl rfl rfl sz89 rfl (by show 2 + 1 ≤ 4; decide) ?_
  refine Ze ?_
  have hap : applyS s f = ⟨s.hs, s.ref ++ [f]⟩ := by unfold applyS; rw [hno]
  rw [hap]
  refine ret0 rfl (fun w' hm' => ⟨rfl, { z with R := R', N := none }, ⟨⟨hz.hs, hz.ok, hz.mc, ?_, hz.ids⟩, hzp, rfl⟩, ?_⟩)
  ·dsimp only; rw [List.length_append, List.flatMap_append]; exact (by simpa using hR')
  refine (hm'.less ((((((List.Sublist.refl _).append ((List.Sublist.refl _).append (List.sublist_append_right _ _))).cons_cons _).cons_cons _).cons _).cons _) (fun _ h => h)).to ?_
  simp [SO, smC, nmV, nmO]; rfl
 obtain ⟨hs2, hq⟩ : ∃ h, accS s.hs f = some h := by cases hq : accS s.hs f with | none => rw [hq] at hc11; cases hc11 | some h => exact ⟨h, rfl⟩
 rw [hq] at hz
 refine w_skip (Zt (Zr ?_))
 refine Xm ?_
 refine Xn ?_
 refine Xf 2 rfl u91 rfl sz89 ?_
 refine x_store (cs := smC z s.ref.length) (off := 2) (e := 91) (l2 := (z.mH, Obj.map z.es z.ck) :: (HO z.hs ++ (rowO 28 z.R ++ (nmO z.N ++ L)))) [(Bk p3 f.cells 28)] rfl rfl rfl rfl sz89 rfl (by show 2 + 1 ≤ 4; decide) ?_
 refine Ze ?_
 have hap : applyS s f = ⟨hs2, s.ref⟩ := by unfold applyS; rw [hq]
 rw [hap]
 refine ret0 rfl (fun w' hm' => ⟨rfl, { z with N := none }, ⟨⟨hz.hs, hz.ok, hz.mc, hz.rf, hz.ids⟩, hzp, rfl⟩, ?_⟩)
 refine (hm'.less (((((List.Sublist.refl _).append ((List.Sublist.refl _).append (List.sublist_append_right _ _))).cons_cons _).cons_cons _).cons _) (fun _ h => h)).to ?_
 simp [SO, smC, nmV, nmO]; rfl
open Go.RowKit Go.PK
theorem ov_nF : (Tryz.f81.name == "runtime.NumGoroutine") = false := by kernel_rfl
theorem ov_bF : Tryz.f81.body.isNone = true := by kernel_rfl
theorem ov_fF : Extern.findNext Tryz.f81 = none := by kernel_rfl
theorem ov_eF : Extern.find Tryz.f81 = some (Extern.SlicesOverlaps.overlaps #[24, 24] #[4]) := by kernel_rfl
set_option maxHeartbeats 4000000 in
theorem k_InsertF {w : World} {l2 : List (Nat × Obj)} {ro : List Snap} {R : RowS} {pn : Nat} (es : List FD) (i : Nat) (x : FD) (hm : Mem w ((Bk pn (FD.cells x) 28) :: (rowO 28 R ++ l2)) ro) (hR : rowOK 6 R es.length (fdsC es)) (hi : i ≤ es.length) (hlen : es.length ≤ 1000000) :
  Calls Tryz.prog 44 #[rowV R es.length, Vi (i : Nat), .slice (some ⟨pn, 0, none⟩) 1 1] w fun e w' => ∃ R', e = .returned (rowV R' (es.length + 1)) ∧ rowOK 6 R' (es.length + 1) (fdsC (es.take i ++ x :: es.drop i)) ∧ Mem w' ((Bk pn (FD.cells x) 28) :: (rowO 28 R' ++ l2)) ro := by
 have hE : (FD.cells x).length = 6 := rfl
 have hRc : es.length ≤ rowC R := by
  cases R with
  | none => have := hR.2; simp only at this; omega
  | some r => exact hR.2.1
 refine enter_in hm (vs := [rowV R es.length, Vi (i : Nat), .slice (some ⟨pn, 0, none⟩) 1 1]) Tryz.func44 rfl Tryz.ntmps44 rfl ?_
 refine Zs (Zr ?_)
 refine Xa ?_
 refine Ze (Zt (Zs (Zr ?_)))
 refine Xm ?_
 refine Xm ?_
 refine Xv rfl (v_scut_from (i := i) u24 sz28 rfl rfl hi hRc) ?_
 refine Ze (Zt (Zs (Zr ?_)))
 refine Xm ?_
 refine Xv rfl (v_len_slice u24 rfl) ?_
 refine Xa ?_
 refine Ze (Zt (Zs (Zs (Zr ?_))))
 refine Xm ?_
 refine Xb rfl (v_eql rfl rfl) fun b16 hb16 => ?_
 refine Ze (Zt ?_)
 refine w_cond rfl (fun hc16 => ?_) fun hc16 => ?_
 ·simp only [hb16, Qz, ne_eq] at hc16
  omega
 skip
 refine w_skip (Zt (Zs (Zr ?_)))
 refine Xm ?_
 refine Xv rfl (v_len_slice u24 rfl) ?_
 refine Xa ?_
 refine Ze (Zt (Zs (Zs (Zr ?_))))
 refine Xm ?_
 refine Xm ?_
 refine Xb rfl (v_eql rfl rfl) fun b22 hb22 => ?_
 refine Ze (Zt ?_)
 refine w_cond rfl (fun hc22 => ?_) fun hc22 => ?_
 ·simp only [hb22, Qz, ne_eq] at hc22
  obtain rfl : i = es.length := by omega
  refine Zs (Zr ?_)
  refine Xm ?_
  refine Xm ?_
  refine x_append (e := 28) [(Bk pn (FD.cells x) 28)] (l2 := l2) R (len := es.length) (xs := fdsC es) rfl rfl rfl rfl rfl hR u24 ap28 rfl rfl (m := 1) (news := FD.cells x) (fun j hj => at_ownL (vs := FD.cells x) (.head _) (by rw [Nat.zero_add]; exact List.getElem?_eq_getElem hj)) rfl Zx (by omega) fun R' hR' => ?_
  refine Xa ?_
  refine Ze (Zt (w_ret (t_ret ?_)))
  refine ret1 rfl rfl (fun w' hm => ⟨R', rfl, ?_, by simpa using hm⟩)
  rw [List.take_length, List.drop_length, fdsC_app]
  exact hR'
 simp only [hb22, Qz, ne_eq] at hc22
 have hil : i < es.length := by omega
 obtain ⟨b0, cs0, cp0, rfl⟩ : ∃ b0 cs0 cp0, R = some (b0, cs0, cp0) := by
  cases R with
  | none => have := hR.2; simp only at this; omega
  | some r => obtain ⟨a, b, c⟩ := r; exact ⟨a, b, c, rfl⟩
 obtain ⟨k1, k2, k3, k4, k5⟩ := hR
 dsimp only at k2 k3 k4 k5
 have hcap : es.length ≤ cp0 := k2
 have hes := fdsC_len es
 refine w_skip (Zt (Zs (Zs (Zr ?_))))
 refine Xm ?_
 refine Xm ?_
 refine Xv rfl (v_addi rfl rfl rfl Zo) ?_
 refine Xm ?_
 refine Xv rfl (v_cap u24 rfl) ?_
 refine Xb rfl (v_gtr rfl rfl) fun b31 hb31 => ?_
 refine Ze (Zt ?_)
 refine w_cond rfl (fun hc31 => ?_) fun hc31 => ?_
 ·simp only [hb31, Qz, ne_eq] at hc31
  have h31 : cp0 < es.length + 1 := by have h : ((cp0 : Nat) : Int) < (es.length : Nat) + (1 : Nat) := hc31; omega
  refine Zs (Zr ?_)
  refine Xm ?_
  refine Xm ?_
  refine Xv rfl (v_scut_to (j := i) u24 sz28 rfl rfl (by omega)) ?_
  refine Xm ?_
  refine Xm ?_
  refine Xv rfl (v_addi rfl rfl rfl Zo) ?_
  refine Xm ?_
  refine Xv rfl (v_subi (c := ((es.length + 1 - i : Nat) : Int)) rfl rfl (by omega) (by omega)) ?_
  have hgt := fun (k : Nat) (hk : k ≤ es.length) (j : Nat) (hj : j < (fdsC (es.drop k)).length) => fds_get k5 (by omega) hk hj
  refine x_append_zeros (e := 28) (m := es.length + 1 - i) (n0 := i) (olds := fdsC (es.take i)) rfl rfl rfl rfl (fun h => by cases h) (by omega) (show cp0 < _ by omega) (fun w1 hw1 a ha j u hu => ?_) (by rw [fdsC_len, List.length_take, Nat.min_eq_left hi]) u24 u3 ap28 rfl Zx (by omega) ?_
  ·cases ha
   have hj : j < (fdsC (es.take i)).length := (List.getElem?_eq_some_iff.1 hu).1
   rw [fdsC_len, List.length_take, Nat.min_eq_left hi] at hj
   rw [← fds_at k5 hi, List.getElem?_take_of_lt hj] at hu
   rw [mk_add]
   exact at_ownL (vs := cs0) (.tail _ (.head _)) (by rw [Nat.zero_add]; exact hu) w1 hw1
  intro b1 cs1 cp1 g1 g2 g3 g4
  refine Xa ?_
  refine Ze (Zt (Zs (Zr ?_)))
  refine Xm ?_
  refine Xm ?_
  refine Xv rfl (v_scut_fromB (i := i) u24 sz28 rfl rfl (by omega) (by omega) (by omega)) ?_
  refine Xm ?_
  refine x_copy (e := 28) (size := 6) (m := 1) (cs := cs1) (news := FD.cells x) (te := 28) [] rfl rfl rfl rfl rfl u24 sz28 (Nat.min_eq_left (by omega)) rfl (fun j hj => at_ownL (vs := FD.cells x) (.tail _ (.head _)) (by rw [Nat.zero_add]; exact List.getElem?_eq_getElem hj)) rfl (by show 0 + i * 6 + 6 ≤ _; omega) ?_
  refine Ze (Zt (Zs ?_))
  refine rg_draw 8 [(true, 0), (true, 1), (true, 2), (true, 3), (true, 4), (true, 5), (true, 6), (true, 7)] Zk Zk ?_
  refine Xm ?_
  refine Xm ?_
  refine Xm ?_
  refine Xv rfl (v_addi rfl rfl rfl Zo) ?_
  refine Xv rfl (v_scut_fromB (i := i + 1) u24 sz28 rfl rfl (by omega) (by omega) (by omega)) ?_
  refine Xm ?_
  refine Xm ?_
  refine Xv rfl (v_scut_fromB (i := i) u24 sz28 rfl rfl (by omega) (by omega) (by omega)) ?_
  refine x_copy (e := 28) (size := 6) (m := es.length - i) (cs := cs1.take (0 + i * 6) ++ FD.cells x ++ cs1.drop (0 + i * 6 + (FD.cells x).length)) (news := fdsC (es.drop i)) (te := 28) [] rfl rfl rfl rfl rfl u24 sz28 (by show min _ _ = _; omega) (by rw [fdsC_len, List.length_drop]) (fun j hj => at_ownL (vs := cs0) (.tail _ (.tail _ (.head _))) (by rw [Nat.zero_add]; exact hgt i hi j hj)) (fdsC_one _) (by rw [fdsC_len, List.length_drop]; simp only [List.length_append, List.length_take, List.length_drop]; show 0 + (i + 1) * 6 + _ ≤ _ + 6 + _; omega) ?_
  refine Ze (Zt (Zs (Zr ?_)))
  refine Xm ?_
  refine Xa ?_
  refine Ze (Zt (w_ret (t_ret ?_)))
  have hdl : (fdsC (es.drop i)).length = (es.length - i) * 6 := by rw [fdsC_len, List.length_drop]
  have hp2 := put_two (B := FD.cells x) (C := fdsC (es.drop i)) g4 (by rw [fdsC_len, List.length_take, Nat.min_eq_left hi]) (by rw [hdl]; omega)
  rw [Nat.zero_add, Nat.zero_add, show (i + 1) * 6 = i * 6 + (FD.cells x).length by omega]
  refine ret1 rfl rfl (fun w' hm => ?_)
  generalize hZ : (List.take (i * 6 + (FD.cells x).length) (List.take (i * 6) cs1 ++ FD.cells x ++ List.drop (i * 6 + (FD.cells x).length) cs1) ++ fdsC (es.drop i) ++ List.drop (i * 6 + (FD.cells x).length + (fdsC (es.drop i)).length) (List.take (i * 6) cs1 ++ FD.cells x ++ List.drop (i * 6 + (FD.cells x).length) cs1)) = Z at hm hp2
  have hq : Mem w' ((Bk pn (FD.cells x) 28) :: ((Bk b1 Z 28) :: l2)) ro := (hm.less (own' := (Bk b1 Z 28) :: ((Bk pn (FD.cells x) 28) :: l2)) (((List.sublist_cons_self _ _).cons_cons _).cons_cons _) (fun _ h => h)).perm (List.Perm.swap _ _ _)
  refine ⟨some (b1, Z, cp1), by rw [show i + (es.length + 1 - i) = es.length + 1 by omega]; rfl, ⟨?_, by show es.length + 1 ≤ cp1; omega, g2, by show Z.length = _; rw [hp2.1, g3], ?_⟩, hq⟩
  ·rw [fdsC_len, List.length_append, List.length_cons, List.length_take, List.length_drop]; omega
  have e2 := hp2.2
  rw [show i * 6 + (FD.cells x).length + (fdsC (es.drop i)).length = (es.length + 1) * 6 by rw [hdl]; omega] at e2
  rw [fdsC_app]
  exact e2
 simp only [hb31, Qz, ne_eq] at hc31
 have h31 : es.length + 1 ≤ cp0 := by have h : ¬((cp0 : Nat) : Int) < (es.length : Nat) + (1 : Nat) := hc31; omega
 refine w_skip (Zt (Zs (Zr ?_)))
 refine Xm ?_
 refine Xm ?_
 refine Xm ?_
 refine Xv rfl (v_addi rfl rfl rfl Zo) ?_
 refine Xv rfl (v_scut_to (j := es.length + 1) u24 sz28 rfl (congrArg (fun z : Int => some (Vi z)) (by omega)) (by exact h31)) ?_
 refine Xa ?_
 refine Ze (Zt (Zs (Zs (Zr ?_))))
 refine Xm ?_
 refine Xm ?_
 refine Xm ?_
 refine Xm ?_
 refine Xv rfl (v_addi rfl rfl rfl Zo) ?_
 refine Xv rfl (v_scut_fromB (b := b0) (o := 0) (len := es.length + 1) (cap := cp0) (i := i + 1) u24 sz28 rfl rfl (by omega) (by omega) (by omega)) ?_
 refine Xb rfl (v_overlaps (na := pn) (nb := b0) (ca1 := FD.cells x) (cb1 := cs0) Tryz.func81 ov_nF ov_bF ov_fF ov_eF u24 sz28 rfl rfl (.head _) (.tail _ (.head _)) (fun w1 hw1 => by have h := hw1.own_nd; simp only [List.map_cons, List.nodup_cons, List.mem_cons, rowO, List.cons_append] at h; exact fun e => h.1 (.inl e)) (by omega)) fun b67 hb67 => ?_
 subst hb67
 refine Xb rfl (v_not rfl) fun b68 hb68 => ?_
 refine Ze (Zt ?_)
 refine w_cond rfl (fun hc68 => ?_) fun hc68 => ?_
 ·skip
  refine Zs ?_
  refine rg_draw 8 [(true, 0), (true, 1), (true, 2), (true, 3), (true, 4), (true, 5), (true, 6), (true, 7)] Zk Zk ?_
  refine Xm ?_
  refine Xm ?_
  refine Xm ?_
  refine Xv rfl (v_addi rfl rfl rfl Zo) ?_
  refine Xv rfl (v_scut_fromB (b := b0) (o := 0) (len := es.length + 1) (cap := cp0) (i := i + 1) u24 sz28 rfl rfl (by omega) (by omega) (by omega)) ?_
  refine Xm ?_
  refine Xm ?_
  refine Xv rfl (v_scut_fromB (b := b0) (o := 0) (len := es.length + 1) (cap := cp0) (i := i) u24 sz28 rfl rfl (by omega) (by omega) (by omega)) ?_
  have hgt := fun (k : Nat) (hk : k ≤ es.length) (j : Nat) (hj : j < (fdsC (es.drop k)).length) => fds_get k5 (by omega) hk hj
  refine x_copy (e := 28) (size := 6) (m := es.length - i) (cs := cs0) (news := fdsC (es.drop i)) (te := 28) [(Bk pn (FD.cells x) 28)] (l2 := l2) rfl rfl rfl rfl rfl u24 sz28 (by show min _ _ = _; omega) (by rw [fdsC_len, List.length_drop]) (fun j hj => at_ownL (vs := cs0) (.tail _ (.head _)) (by rw [Nat.zero_add]; exact hgt i hi j hj)) (fdsC_one _) (by rw [fdsC_len, List.length_drop]; omega) ?_
  refine Ze (Zt (Zs (Zr ?_)))
  refine Xm ?_
  refine Xm ?_
  refine Xv rfl (v_scut_fromB (b := b0) (o := 0) (len := es.length + 1) (cap := cp0) (i := i) u24 sz28 rfl rfl (by omega) (by omega) (by omega)) ?_
  refine Xm ?_
  refine x_copy (e := 28) (size := 6) (m := 1) (cs := cs0.take (0 + (i + 1) * 6) ++ fdsC (es.drop i) ++ cs0.drop (0 + (i + 1) * 6 + (fdsC (es.drop i)).length)) (news := FD.cells x) (te := 28) [(Bk pn (FD.cells x) 28)] (l2 := l2) rfl rfl rfl rfl rfl u24 sz28 (Nat.min_eq_left (by omega)) rfl (fun j hj => at_ownL (vs := FD.cells x) (.head _) (by rw [Nat.zero_add]; exact List.getElem?_eq_getElem hj)) rfl (by rw [fdsC_len, List.length_drop]; simp only [List.length_append, List.length_take, List.length_drop, fdsC_len]; omega) ?_
  refine Ze (Zt (Zs (Zr ?_)))
  refine Xm ?_
  refine Xa ?_
  refine Ze (Zt (w_ret (t_ret ?_)))
  have hdl : (fdsC (es.drop i)).length = (es.length - i) * 6 := by rw [fdsC_len, List.length_drop]
  have hp2 := put_back (B := FD.cells x) (C := fdsC (es.drop i)) (fds_at k5 hi) (by rw [fdsC_len, List.length_take, Nat.min_eq_left hi]) (by rw [hdl]; omega)
  rw [Nat.zero_add, Nat.zero_add, show (i + 1) * 6 = i * 6 + (FD.cells x).length by omega]
  refine ret1 rfl rfl (fun w' hm => ?_)
  generalize hZ : (List.take (i * 6) (List.take (i * 6 + (FD.cells x).length) cs0 ++ fdsC (es.drop i) ++ List.drop (i * 6 + (FD.cells x).length + (fdsC (es.drop i)).length) cs0) ++ FD.cells x ++ List.drop (i * 6 + (FD.cells x).length) (List.take (i * 6 + (FD.cells x).length) cs0 ++ fdsC (es.drop i) ++ List.drop (i * 6 + (FD.cells x).length + (fdsC (es.drop i)).length) cs0)) = Z at hm hp2
  refine ⟨some (b0, Z, cp0), rfl, ⟨?_, h31, k3, by show Z.length = _; rw [hp2.1, k4], ?_⟩, hm⟩
  ·rw [fdsC_len, List.length_append, List.length_cons, List.length_take, List.length_drop]; omega
  have e2 := hp2.2
  rw [show i * 6 + (FD.cells x).length + (fdsC (es.drop i)).length = (es.length + 1) * 6 by rw [hdl]; omega] at e2
  rw [fdsC_app]
  exact e2
 simp [hb68] at hc68
theorem ap67 : (Tryz.prog.info? 67).map (fun j => (j.zero, j.size, j.bytes)) = some (some (.agg #[.int .u8 0, .string ⟨#[]⟩]), 2, 24) := by kernel_rfl
theorem ov_nS : (Tryz.f93.name == "runtime.NumGoroutine") = false := by kernel_rfl
theorem ov_bS : Tryz.f93.body.isNone = true := by kernel_rfl
theorem ov_fS : Extern.findNext Tryz.f93 = none := by kernel_rfl
theorem ov_eS : Extern.find Tryz.f93 = some (Extern.SlicesOverlaps.overlaps #[60, 60] #[4]) := by kernel_rfl
set_option maxHeartbeats 4000000 in
theorem k_InsertS {w : World} {l2 : List (Nat × Obj)} {ro : List Snap} {R : RowS} {pn : Nat} (es : List Sb) (i : Nat) (x : Sb) (hm : Mem w ((Bk pn (sbC x) 67) :: (rowO 67 R ++ l2)) ro) (hR : rowOK 2 R es.length (sbsC es)) (hi : i ≤ es.length) (hlen : es.length ≤ 1000000) :
  Calls Tryz.prog 64 #[rowV R es.length, Vi (i : Nat), .slice (some ⟨pn, 0, none⟩) 1 1] w fun e w' => ∃ R', e = .returned (rowV R' (es.length + 1)) ∧ rowOK 2 R' (es.length + 1) (sbsC (es.take i ++ x :: es.drop i)) ∧ Mem w' ((Bk pn (sbC x) 67) :: (rowO 67 R' ++ l2)) ro := by
 have hE : (sbC x).length = 2 := rfl
 have hRc : es.length ≤ rowC R := by
  cases R with
  | none => have := hR.2; simp only at this; omega
  | some r => exact hR.2.1
 refine enter_in hm (vs := [rowV R es.length, Vi (i : Nat), .slice (some ⟨pn, 0, none⟩) 1 1]) Tryz.func64 rfl Tryz.ntmps64 rfl ?_
 refine Zs (Zr ?_)
 refine Xa ?_
 refine Ze (Zt (Zs (Zr ?_)))
 refine Xm ?_
 refine Xm ?_
 refine Xv rfl (v_scut_from (i := i) u60 sz67 rfl rfl hi hRc) ?_
 refine Ze (Zt (Zs (Zr ?_)))
 refine Xm ?_
 refine Xv rfl (v_len_slice u60 rfl) ?_
 refine Xa ?_
 refine Ze (Zt (Zs (Zs (Zr ?_))))
 refine Xm ?_
 refine Xb rfl (v_eql rfl rfl) fun b16 hb16 => ?_
 refine Ze (Zt ?_)
 refine w_cond rfl (fun hc16 => ?_) fun hc16 => ?_
 ·simp only [hb16, Qz, ne_eq] at hc16
  omega
 skip
 refine w_skip (Zt (Zs (Zr ?_)))
 refine Xm ?_
 refine Xv rfl (v_len_slice u60 rfl) ?_
 refine Xa ?_
 refine Ze (Zt (Zs (Zs (Zr ?_))))
 refine Xm ?_
 refine Xm ?_
 refine Xb rfl (v_eql rfl rfl) fun b22 hb22 => ?_
 refine Ze (Zt ?_)
 refine w_cond rfl (fun hc22 => ?_) fun hc22 => ?_
 ·simp only [hb22, Qz, ne_eq] at hc22
  obtain rfl : i = es.length := by omega
  refine Zs (Zr ?_)
  refine Xm ?_
  refine Xm ?_
  refine x_append (e := 67) [(Bk pn (sbC x) 67)] (l2 := l2) R (len := es.length) (xs := sbsC es) rfl rfl rfl rfl rfl hR u60 ap67 rfl rfl (m := 1) (news := sbC x) (fun j hj => at_ownL (vs := sbC x) (.head _) (by rw [Nat.zero_add]; exact List.getElem?_eq_getElem hj)) rfl Zx (by omega) fun R' hR' => ?_
  refine Xa ?_
  refine Ze (Zt (w_ret (t_ret ?_)))
  refine ret1 rfl rfl (fun w' hm => ⟨R', rfl, ?_, by simpa using hm⟩)
  rw [List.take_length, List.drop_length, sbsC_app]
  exact hR'
 simp only [hb22, Qz, ne_eq] at hc22
 have hil : i < es.length := by omega
 obtain ⟨b0, cs0, cp0, rfl⟩ : ∃ b0 cs0 cp0, R = some (b0, cs0, cp0) := by
  cases R with
  | none => have := hR.2; simp only at this; omega
  | some r => obtain ⟨a, b, c⟩ := r; exact ⟨a, b, c, rfl⟩
 obtain ⟨k1, k2, k3, k4, k5⟩ := hR
 dsimp only at k2 k3 k4 k5
 have hcap : es.length ≤ cp0 := k2
 have hes := sbsC_len es
 refine w_skip (Zt (Zs (Zs (Zr ?_))))
 refine Xm ?_
 refine Xm ?_
 refine Xv rfl (v_addi rfl rfl rfl Zo) ?_
 refine Xm ?_
 refine Xv rfl (v_cap u60 rfl) ?_
 refine Xb rfl (v_gtr rfl rfl) fun b31 hb31 => ?_
 refine Ze (Zt ?_)
 refine w_cond rfl (fun hc31 => ?_) fun hc31 => ?_
 ·simp only [hb31, Qz, ne_eq] at hc31
  have h31 : cp0 < es.length + 1 := by have h : ((cp0 : Nat) : Int) < (es.length : Nat) + (1 : Nat) := hc31; omega
  refine Zs (Zr ?_)
  refine Xm ?_
  refine Xm ?_
  refine Xv rfl (v_scut_to (j := i) u60 sz67 rfl rfl (by omega)) ?_
  refine Xm ?_
  refine Xm ?_
  refine Xv rfl (v_addi rfl rfl rfl Zo) ?_
  refine Xm ?_
  refine Xv rfl (v_subi (c := ((es.length + 1 - i : Nat) : Int)) rfl rfl (by omega) (by omega)) ?_
  have hgt := fun (k : Nat) (hk : k ≤ es.length) (j : Nat) (hj : j < (sbsC (es.drop k)).length) => sbs_get k5 (by omega) hk hj
  refine x_append_zeros (e := 67) (m := es.length + 1 - i) (n0 := i) (olds := sbsC (es.take i)) rfl rfl rfl rfl (fun h => by cases h) (by omega) (show cp0 < _ by omega) (fun w1 hw1 a ha j u hu => ?_) (by rw [sbsC_len, List.length_take, Nat.min_eq_left hi]) u60 u3 ap67 rfl Zx (by omega) ?_
  ·cases ha
   have hj : j < (sbsC (es.take i)).length := (List.getElem?_eq_some_iff.1 hu).1
   rw [sbsC_len, List.length_take, Nat.min_eq_left hi] at hj
   rw [← sbs_at k5 hi, List.getElem?_take_of_lt hj] at hu
   rw [mk_add]
   exact at_ownL (vs := cs0) (.tail _ (.head _)) (by rw [Nat.zero_add]; exact hu) w1 hw1
  intro b1 cs1 cp1 g1 g2 g3 g4
  refine Xa ?_
  refine Ze (Zt (Zs (Zr ?_)))
  refine Xm ?_
  refine Xm ?_
  refine Xv rfl (v_scut_fromB (i := i) u60 sz67 rfl rfl (by omega) (by omega) (by omega)) ?_
  refine Xm ?_
  refine x_copy (e := 67) (size := 2) (m := 1) (cs := cs1) (news := sbC x) (te := 67) [] rfl rfl rfl rfl rfl u60 sz67 (Nat.min_eq_left (by omega)) rfl (fun j hj => at_ownL (vs := sbC x) (.tail _ (.head _)) (by rw [Nat.zero_add]; exact List.getElem?_eq_getElem hj)) rfl (by show 0 + i * 2 + 2 ≤ _; omega) ?_
  refine Ze (Zt (Zs ?_))
  refine rg_draw 8 [(true, 0), (true, 1), (true, 2), (true, 3), (true, 4), (true, 5), (true, 6), (true, 7)] Zk Zk ?_
  refine Xm ?_
  refine Xm ?_
  refine Xm ?_
  refine Xv rfl (v_addi rfl rfl rfl Zo) ?_
  refine Xv rfl (v_scut_fromB (i := i + 1) u60 sz67 rfl rfl (by omega) (by omega) (by omega)) ?_
  refine Xm ?_
  refine Xm ?_
  refine Xv rfl (v_scut_fromB (i := i) u60 sz67 rfl rfl (by omega) (by omega) (by omega)) ?_
  refine x_copy (e := 67) (size := 2) (m := es.length - i) (cs := cs1.take (0 + i * 2) ++ sbC x ++ cs1.drop (0 + i * 2 + (sbC x).length)) (news := sbsC (es.drop i)) (te := 67) [] rfl rfl rfl rfl rfl u60 sz67 (by show min _ _ = _; omega) (by rw [sbsC_len, List.length_drop]) (fun j hj => at_ownL (vs := cs0) (.tail _ (.tail _ (.head _))) (by rw [Nat.zero_add]; exact hgt i hi j hj)) (sbsC_one' _) (by rw [sbsC_len, List.length_drop]; simp only [List.length_append, List.length_take, List.length_drop]; show 0 + (i + 1) * 2 + _ ≤ _ + 2 + _; omega) ?_
  refine Ze (Zt (Zs (Zr ?_)))
  refine Xm ?_
  refine Xa ?_
  refine Ze (Zt (w_ret (t_ret ?_)))
  have hdl : (sbsC (es.drop i)).length = (es.length - i) * 2 := by rw [sbsC_len, List.length_drop]
  have hp2 := put_two (B := sbC x) (C := sbsC (es.drop i)) g4 (by rw [sbsC_len, List.length_take, Nat.min_eq_left hi]) (by rw [hdl]; omega)
  rw [Nat.zero_add, Nat.zero_add, show (i + 1) * 2 = i * 2 + (sbC x).length by omega]
  refine ret1 rfl rfl (fun w' hm => ?_)
  generalize hZ : (List.take (i * 2 + (sbC x).length) (List.take (i * 2) cs1 ++ sbC x ++ List.drop (i * 2 + (sbC x).length) cs1) ++ sbsC (es.drop i) ++ List.drop (i * 2 + (sbC x).length + (sbsC (es.drop i)).length) (List.take (i * 2) cs1 ++ sbC x ++ List.drop (i * 2 + (sbC x).length) cs1)) = Z at hm hp2
  have hq : Mem w' ((Bk pn (sbC x) 67) :: ((Bk b1 Z 67) :: l2)) ro := (hm.less (own' := (Bk b1 Z 67) :: ((Bk pn (sbC x) 67) :: l2)) (((List.sublist_cons_self _ _).cons_cons _).cons_cons _) (fun _ h => h)).perm (List.Perm.swap _ _ _)
  refine ⟨some (b1, Z, cp1), by rw [show i + (es.length + 1 - i) = es.length + 1 by omega]; rfl, ⟨?_, by show es.length + 1 ≤ cp1; omega, g2, by show Z.length = _; rw [hp2.1, g3], ?_⟩, hq⟩
  ·rw [sbsC_len, List.length_append, List.length_cons, List.length_take, List.length_drop]; omega
  have e2 := hp2.2
  rw [show i * 2 + (sbC x).length + (sbsC (es.drop i)).length = (es.length + 1) * 2 by rw [hdl]; omega] at e2
  rw [sbsC_app]
  exact e2
 simp only [hb31, Qz, ne_eq] at hc31
 have h31 : es.length + 1 ≤ cp0 := by have h : ¬((cp0 : Nat) : Int) < (es.length : Nat) + (1 : Nat) := hc31; omega
 refine w_skip (Zt (Zs (Zr ?_)))
 refine Xm ?_
 refine Xm ?_
 refine Xm ?_
 refine Xv rfl (v_addi rfl rfl rfl Zo) ?_
 refine Xv rfl (v_scut_to (j := es.length + 1) u60 sz67 rfl (congrArg (fun z : Int => some (Vi z)) (by omega)) (by exact h31)) ?_
 refine Xa ?_
 refine Ze (Zt (Zs (Zs (Zr ?_))))
 refine Xm ?_
 refine Xm ?_
 refine Xm ?_
 refine Xm ?_
 refine Xv rfl (v_addi rfl rfl rfl Zo) ?_
 refine Xv rfl (v_scut_fromB (b := b0) (o := 0) (len := es.length + 1) (cap := cp0) (i := i + 1) u60 sz67 rfl rfl (by omega) (by omega) (by omega)) ?_
 refine Xb rfl (v_overlaps (na := pn) (nb := b0) (ca1 := sbC x) (cb1 := cs0) Tryz.func93 ov_nS ov_bS ov_fS ov_eS u60 sz67 rfl rfl (.head _) (.tail _ (.head _)) (fun w1 hw1 => by have h := hw1.own_nd; simp only [List.map_cons, List.nodup_cons, List.mem_cons, rowO, List.cons_append] at h; exact fun e => h.1 (.inl e)) (by omega)) fun b67 hb67 => ?_
 subst hb67
 refine Xb rfl (v_not rfl) fun b68 hb68 => ?_
 refine Ze (Zt ?_)
 refine w_cond rfl (fun hc68 => ?_) fun hc68 => ?_
 ·skip
  refine Zs ?_
  refine rg_draw 8 [(true, 0), (true, 1), (true, 2), (true, 3), (true, 4), (true, 5), (true, 6), (true, 7)] Zk Zk ?_
  refine Xm ?_
  refine Xm ?_
  refine Xm ?_
  refine Xv rfl (v_addi rfl rfl rfl Zo) ?_
  refine Xv rfl (v_scut_fromB (b := b0) (o := 0) (len := es.length + 1) (cap := cp0) (i := i + 1) u60 sz67 rfl rfl (by omega) (by omega) (by omega)) ?_
  refine Xm ?_
  refine Xm ?_
  refine Xv rfl (v_scut_fromB (b := b0) (o := 0) (len := es.length + 1) (cap := cp0) (i := i) u60 sz67 rfl rfl (by omega) (by omega) (by omega)) ?_
  have hgt := fun (k : Nat) (hk : k ≤ es.length) (j : Nat) (hj : j < (sbsC (es.drop k)).length) => sbs_get k5 (by omega) hk hj
  refine x_copy (e := 67) (size := 2) (m := es.length - i) (cs := cs0) (news := sbsC (es.drop i)) (te := 67) [(Bk pn (sbC x) 67)] (l2 := l2) rfl rfl rfl rfl rfl u60 sz67 (by show min _ _ = _; omega) (by rw [sbsC_len, List.length_drop]) (fun j hj => at_ownL (vs := cs0) (.tail _ (.head _)) (by rw [Nat.zero_add]; exact hgt i hi j hj)) (sbsC_one' _) (by rw [sbsC_len, List.length_drop]; omega) ?_
  refine Ze (Zt (Zs (Zr ?_)))
  refine Xm ?_
  refine Xm ?_
  refine Xv rfl (v_scut_fromB (b := b0) (o := 0) (len := es.length + 1) (cap := cp0) (i := i) u60 sz67 rfl rfl (by omega) (by omega) (by omega)) ?_
  refine Xm ?_
  refine x_copy (e := 67) (size := 2) (m := 1) (cs := cs0.take (0 + (i + 1) * 2) ++ sbsC (es.drop i) ++ cs0.drop (0 + (i + 1) * 2 + (sbsC (es.drop i)).length)) (news := sbC x) (te := 67) [(Bk pn (sbC x) 67)] (l2 := l2) rfl rfl rfl rfl rfl u60 sz67 (Nat.min_eq_left (by omega)) rfl (fun j hj => at_ownL (vs := sbC x) (.head _) (by rw [Nat.zero_add]; exact List.getElem?_eq_getElem hj)) rfl (by rw [sbsC_len, List.length_drop]; simp only [List.length_append, List.length_take, List.length_drop, sbsC_len]; omega) ?_
  refine Ze (Zt (Zs (Zr ?_)))
  refine Xm ?_
  refine Xa ?_
  refine Ze (Zt (w_ret (t_ret ?_)))
  have hdl : (sbsC (es.drop i)).length = (es.length - i) * 2 := by rw [sbsC_len, List.length_drop]
  have hp2 := put_back (B := sbC x) (C := sbsC (es.drop i)) (sbs_at k5 hi) (by rw [sbsC_len, List.length_take, Nat.min_eq_left hi]) (by rw [hdl]; omega)
  rw [Nat.zero_add, Nat.zero_add, show (i + 1) * 2 = i * 2 + (sbC x).length by omega]
  refine ret1 rfl rfl (fun w' hm => ?_)
  generalize hZ : (List.take (i * 2) (List.take (i * 2 + (sbC x).length) cs0 ++ sbsC (es.drop i) ++ List.drop (i * 2 + (sbC x).length + (sbsC (es.drop i)).length) cs0) ++ sbC x ++ List.drop (i * 2 + (sbC x).length) (List.take (i * 2 + (sbC x).length) cs0 ++ sbsC (es.drop i) ++ List.drop (i * 2 + (sbC x).length + (sbsC (es.drop i)).length) cs0)) = Z at hm hp2
  refine ⟨some (b0, Z, cp0), rfl, ⟨?_, h31, k3, by show Z.length = _; rw [hp2.1, k4], ?_⟩, hm⟩
  ·rw [sbsC_len, List.length_append, List.length_cons, List.length_take, List.length_drop]; omega
  have e2 := hp2.2
  rw [show i * 2 + (sbC x).length + (sbsC (es.drop i)).length = (es.length + 1) * 2 by rw [hdl]; omega] at e2
  rw [sbsC_app]
  exact e2
 simp [hb68] at hc68
open Go.RowKit Go.PK
theorem k_cmp (x y : Int) (w : World) : Calls Tryz.prog 79 #[Vi x, Vi y] w fun e w' => e = .returned (Vi (Lib.compareInt x y)) ∧ Later w w' := (Tryz.cmp_Compare_int x y w).mono fun e w' ⟨h1, h2⟩ => ⟨h1, by rw [h2]; exact Later.refl _⟩
theorem k_Or {p : Nat} {a c : Int} (w : World) (h0 : w.cell? ⟨p, 0, none⟩ = some (Vi a)) (h1 : w.cell? ⟨p, 1, none⟩ = some (Vi c)) :
  Calls Tryz.prog 78 #[.slice (some ⟨p, 0, none⟩) 2 2] w fun e w' => e = .returned (Vi (if a ≠ 0 then a else c)) ∧ Later w w' := by
 have hcell : ∀ k, k < 2 → w.cell? ⟨p, k, none⟩ = some (Vi (if k = 0 then a else c)) := fun k hk => by
  match k, hk with
  | 0, _ => exact h0
  | 1, _ => exact h1
 refine enter (vs := [.slice (some ⟨p, 0, none⟩) 2 2]) Tryz.func78 rfl Tryz.ntmps78 rfl ?_
 refine Zs (Zr ?_)
 refine Xa ?_
 refine Ze (Zt (Zs (Zr ?_)))
 refine Xa ?_
 refine Ze (Zt (Zs (Zs (Zr ?_))))
 refine Xm ?_
 refine Xv rfl (v_len_slice u25 rfl) ?_
 refine Xm ?_
 refine Ze (Zt (w_block ?_))
 refine w_loop (σ := Nat) (fun k => k ≤ 2 ∧ (1 ≤ k → a = 0) ∧ (2 ≤ k → c = 0)) (fun k => [(3, Vi 0), (6, Value.slice (some ⟨p, 0, none⟩) 2 2), (7, Vi 2), (8, Vi (k : Nat))]) (fun k => []) (fun k => [(w, fun _ => True)]) (fun k => 2 - k) (0) (⟨by omega, by omega, by omega⟩) (l_start Zu (fun _ h => h)) ?_
 rintro k ⟨hk, ha, hb⟩
 refine w_state ([(3, Vi 0), (6, Value.slice (some ⟨p, 0, none⟩) 2 2), (7, Vi 2), (8, Vi (k : Nat))]) ([]) ([(w, fun _ => True)]) ?_
 refine Zs (Zr ?_)
 refine Xb rfl (v_lss rfl rfl) fun b9 hb9 => ?_
 refine Ze (Zt (Zs ?_))
 refine w_cond rfl (fun hc9 => ?_) fun hc9 => ?_
 ·simp only [hb9, Qz, ne_eq] at hc9
  have hkl : k < 2 := by omega
  have hz1 : (if k = 0 then a else c) = 0 → a = 0 := fun h => by by_cases h9 : k = 0; (· rwa [if_pos h9] at h); exact ha (by omega)
  have hz2 : 2 ≤ k + 1 → (if k = 0 then a else c) = 0 → c = 0 := fun h8 h => by rwa [if_neg (show ¬k = 0 by omega)] at h
  refine w_skip (Zt (Zs (w_block (Zs (Zr ?_)))))
  refine Xv rfl (v_indexAddr u25 sz3 rfl rfl (by omega) rfl) ?_
  refine Xl rfl u3 rfl (at_ro (.head _) trivial (v := Vi (if k = 0 then a else c)) (by rw [Nat.zero_add, Nat.mul_one]; exact hcell k hkl)) ?_
  refine Xa ?_
  refine Ze (Zt (Zs (Zr ?_)))
  refine Xm ?_
  refine Xm ?_
  refine Xb rfl (v_neq rfl rfl) fun b14 hb14 => ?_
  refine Ze (Zt ?_)
  refine w_cond rfl (fun hc14 => ?_) fun hc14 => ?_
  ·simp only [hb14, Qz, ne_eq] at hc14
   refine Zs (Zr ?_)
   refine Xm ?_
   refine Xa ?_
   refine Ze (Zt (w_ret (b_ret (t_ret (t_ret (b_ret (t_ret ?_)))))))
   refine ret1 rfl rfl (fun w' hm => ⟨?_, hm.base (by simp)⟩)
   by_cases h9 : k = 0
   ·rw [if_pos h9] at hc14 ⊢; rw [if_pos hc14]
   rw [if_neg h9] at hc14 ⊢; rw [if_neg (fun h => h (ha (by omega)))]
  simp only [hb14, Qz, ne_eq] at hc14
  have hc14 : (if k = 0 then a else c) = 0 := by omega
  refine w_skip (b_norm (Zt (Zr ?_)))
  refine Xv rfl (v_addi rfl rfl rfl Zo) ?_
  refine Xm ?_
  refine Ze ?_
  exact l_norm (k + 1) ⟨hkl, fun h => hz1 hc14, fun h => hz2 h hc14⟩ (by omega) Zu (fun _ h => h)
 simp only [hb9, Qz, ne_eq] at hc9
 obtain rfl : k = 2 := by omega
 refine w_exit ?_
 refine t_exit ?_
 refine t_exit ?_
 refine b_hit ?_
 refine Zt (Zs (Zr ?_))
 refine Xm ?_
 refine Xa ?_
 refine Ze (Zt (w_ret ?_))
 refine ret1 rfl rfl (fun w' hm => ⟨?_, hm.base (by simp)⟩)
 rw [if_neg (fun h => h (ha (by decide))), hb (Nat.le_refl _)]
theorem k_order (a c : FD) (w : World) :
  Calls Tryz.prog 41 #[Value.agg a.cells.toArray, Value.agg c.cells.toArray] w fun e w' => e = .returned (Vi (ordF a c)) ∧ Later w w' := by
 refine enter (vs := [Value.agg a.cells.toArray, Value.agg c.cells.toArray]) Tryz.func41 rfl Tryz.ntmps41 rfl ?_
 refine Zs (Zr ?_)
 refine x_box rfl rfl rfl rfl ?_
 intro p2
 refine x_box rfl rfl rfl rfl ?_
 intro p3
 refine Xa ?_
 refine Ze (Zt (Zs ?_))
 refine rg_draw 13 [(true, 0), (true, 1), (true, 2), (true, 3), (true, 4), (true, 5), (true, 6), (true, 7), (true, 8), (true, 9), (false, 10), (true, 11), (true, 12)] Zk Zk ?_
 refine Xf 1 rfl u28 rfl sz3 ?_
 refine Xl rfl u3 rfl (at_ownL (vs := a.cells) (.tail _ (.head _)) rfl) ?_
 refine Xf 1 rfl u28 rfl sz3 ?_
 refine Xl rfl u3 rfl (at_ownL (vs := c.cells) (.head _) rfl) ?_
 refine x_callv rfl rfl rfl Tryz.func79 Zk rfl (fun w1 hw1 => k_cmp _ _ w1) ?_
 refine Xf 0 rfl u28 rfl sz3 ?_
 refine Xl rfl u3 rfl (at_ownL (vs := a.cells) (.tail _ (.head _)) rfl) ?_
 refine Xf 0 rfl u28 rfl sz3 ?_
 refine Xl rfl u3 rfl (at_ownL (vs := c.cells) (.head _) rfl) ?_
 refine x_callv rfl rfl rfl Tryz.func79 Zk rfl (fun w1 hw1 => k_cmp _ _ w1) ?_
 refine x_buildSliceL (cs := [Vi (Lib.compareInt a.num c.num), Vi (Lib.compareInt a.ag c.ag)]) rfl rfl rfl u25 sz3 zr3 rfl rfl rfl ?_
 intro p15
 refine x_callv rfl rfl rfl Tryz.func78 Zk rfl (fun w1 hw1 => k_Or (a := Lib.compareInt a.num c.num) (c := Lib.compareInt a.ag c.ag) w1 (at_ownL (vs := [Vi (Lib.compareInt a.num c.num), Vi (Lib.compareInt a.ag c.ag)]) (.head _) rfl w1 hw1) (at_ownL (vs := [Vi (Lib.compareInt a.num c.num), Vi (Lib.compareInt a.ag c.ag)]) (.head _) rfl w1 hw1)) ?_
 refine Xa ?_
 refine Ze (Zt (w_ret ?_))
 refine ret1 rfl rfl (fun w' hm => ⟨?_, hm.base (by simp)⟩)
 rfl
theorem x_cl_if {P : Program} {n : Nat} {l : List (Nat × Value)} {own : List (Nat × Obj)} {ro : List Snap} {lops : List Oper} {Q : Exit → Act → World → Prop} {K : Act → World → Prop} {rest : List (Option Bool × Nat)} {k : Option Bool} {i d j dj : Nat} {ty : TypeId} {pos : String} {af : Array Edge} {want b : Bool} (gs : List (Bool × Bool)) {f : FuncId} {fn : Func} {xs : Array Operand} {tys : Array TypeId} {c : Operand} {cap : Array Value} (ho : lops[i]? = some ⟨some d, .call ⟨.value c, xs, tys⟩, ty, pos, af, some (j, want)⟩) (hj : (lops[j]?).bind (·.dst) = some dj) (hb : l.lookup dj = some (gvl gs (.bool b))) (hk : k.getD true = true) (hd : decide (d < n) = true)
  (hf : P.funcs[f]? = some fn) (hbody : (!(fn.name == "runtime.NumGoroutine") && fn.body.isSome) = true) {v : Value}
  (hc : allg (gs ++ [(b, want)]) → ∃ vs, ev l c = some (.func (.func f) #[] cap) ∧ evs l xs.toList = some vs ∧ ∀ w, Mem w own ro → Calls P f (vs.toArray ++ cap) w fun e w' => e = .returned v ∧ Later w w')
  (h : WX P lops.toArray Q K rest n ((d, gvl (gs ++ [(b, want)]) v) :: l) own ro) : WX P lops.toArray Q K ((k, i) :: rest) n l own ro := by
 by_cases hg : allg (gs ++ [(b, want)])
 ·obtain ⟨h1, h2⟩ := allg_snoc.1 hg
  obtain ⟨vs, hcal, hx, hc⟩ := hc hg
  refine x_callv_core (fst := #[]) ho (go_gs rfl hj hb h1 h2) rfl rfl hk hd hcal hf hbody hx (by simpa using hc) ?_
  rwa [gvl_yes hg] at h
 refine x_pass ho (no_gs rfl hj hb fun h => hg (allg_snoc.2 h)) rfl hd ?_
 rwa [gvl_no hg] at h
set_option maxHeartbeats 2000000 in
theorem k_BS {fs : List FD} {x : FD} {R : RowS} (w : World) (hR : rowOK 6 R fs.length (fdsC fs)) (hW : ∀ q ∈ rowO 28 R, w.heap[q.1]? = some q.2) (hs : srtF8 fs) (hlen : fs.length ≤ 1000000) :
  Calls Tryz.prog 40 #[rowV R fs.length, Value.agg x.cells.toArray, Value.func (.func 41) #[] #[]] w fun e w' => e = .returned (.tuple #[Vi (posF fs x : Nat), .bool (knwF fs x)]) ∧ Later w w' := by
 refine enter (vs := [rowV R fs.length, Value.agg x.cells.toArray, Value.func (.func 41) #[] #[]]) Tryz.func40 rfl Tryz.ntmps40 rfl ?_
 refine Zs (Zr ?_)
 refine x_box rfl rfl rfl rfl ?_
 intro p4
 refine Xa ?_
 refine Xa ?_
 refine Ze (Zt (Zs (Zr ?_)))
 refine Xm ?_
 refine Xv rfl (v_len_slice u24 rfl) ?_
 refine Xa ?_
 refine Ze (Zt (Zs (Zr ?_)))
 refine Xm ?_
 refine Xa ?_
 refine Xa ?_
 refine Ze (Zt (Zs (w_block ?_)))
 refine w_loop (σ := Nat × Nat) (fun z => z.1 ≤ z.2 ∧ z.2 ≤ fs.length ∧ (∀ q (h : q < fs.length), q < z.1 → befF fs[q] x) ∧ (∀ q (h : q < fs.length), z.2 ≤ q → ¬befF fs[q] x)) (fun z => [(0, rowV R fs.length), (2, Value.func (.func 41) #[] #[]), (4, Pt p4), (8, Vi (fs.length : Nat)), (9, Vi (z.1 : Nat)), (10, Vi (z.2 : Nat))]) (fun z => [(Bk p4 x.cells 28)]) (fun z => [(w, fun _ => True)]) (fun z => z.2 - z.1) ((0, fs.length)) (⟨Nat.zero_le _, Nat.le_refl _, (fun q h hq => absurd hq (Nat.not_lt_zero _)), fun q h hq => absurd h (Nat.not_lt.2 hq)⟩) (l_start Zu (fun _ h => h)) ?_
 rintro ⟨i, j⟩ ⟨hij, hjn, hlo, hhi⟩
 refine w_state ([(0, rowV R fs.length), (2, Value.func (.func 41) #[] #[]), (4, Pt p4), (8, Vi (fs.length : Nat)), (9, Vi (i : Nat)), (10, Vi (j : Nat))]) ([(Bk p4 x.cells 28)]) ([(w, fun _ => True)]) ?_
 dsimp only at hij hjn hlo hhi
 refine Zs (Zs (Zr ?_))
 refine Xm ?_
 refine Xm ?_
 refine Xb rfl (v_lss rfl rfl) fun b17 hb17 => ?_
 refine Ze (Zt ?_)
 refine w_cond rfl (fun hc17 => ?_) fun hc17 => ?_
 ·simp only [hb17, Qz, ne_eq] at hc17
  have hlt : i < j := by omega
  refine w_skip (Zt (w_block (Zs (Zr ?_))))
  refine Xm ?_
  refine Xm ?_
  refine Xv rfl (v_addi rfl rfl rfl Zo) ?_
  refine Xv rfl (v_convE (c := ((i + j : Nat) : Int)) u3 u120 rfl (by rw [IntKind.wrap_u64]; omega)) ?_
  refine Xv (v := Value.int .u64 ((((i + j) / 2) : Nat) : Int)) rfl (v_shr rfl rfl (by decide) (by show ((i + j : Nat) : Int) / 2 = _; omega)) ?_
  refine Xv rfl (v_convE (c := ((((i + j) / 2) : Nat) : Int)) u120 u3 rfl (by rw [IntKind.wrap_i64]; omega)) ?_
  refine Xa ?_
  refine Ze (Zt (Zs ?_))
  have hml : ((i + j) / 2) < fs.length := by omega
  obtain ⟨g27, cs27, c27, hRg27, hcap27, hc27⟩ := fd_cell hR hml; have hcell27 : ∀ i9 v, (fs[((i + j) / 2)].cells)[i9]? = some v → w.cell? ⟨g27, ((i + j) / 2) * 6 + i9, none⟩ = some v := fun i9 v hv => (by have hg := hW (g27, .cells cs27.toArray 28 (0, 0)) (by rw [hRg27]; exact .head _); have hi : i9 < 6 := (List.getElem?_eq_some_iff.1 hv).1; rw [cell_of_row w g27 _ _ 28 (0, 0) hg, List.getElem?_toArray, hc27 i9 hi]; exact hv)
  refine rg_draw 8 [(true, 0), (true, 1), (true, 2), (true, 3), (true, 4), (true, 5), (true, 6), (true, 7)] Zk Zk ?_
  refine Xm ?_
  refine Xm ?_
  refine Xm ?_
  refine Xv rfl (v_indexAddr u24 sz28 (congrArg (fun R => some (rowV R fs.length)) hRg27) rfl (hml) rfl) ?_
  refine Xv rfl (v_loadN (vs := fs[((i + j) / 2)].cells) u28 rfl sz28 rfl (fun i hi => at_ro (.head _) trivial (by rw [Nat.zero_add]; exact hcell27 i _ (List.getElem?_eq_getElem hi)))) ?_
  refine Xv (v := Value.agg x.cells.toArray) rfl (v_load_blk u28 rfl rfl (.head _) (by exact sz28)) ?_
  refine x_clv (cap := #[]) (v := Vi (ordF fs[((i + j) / 2)] x)) rfl rfl rfl rfl Tryz.func41 Zk rfl (fun w1 hw1 => by simpa using k_order fs[((i + j) / 2)] x w1) ?_
  refine Xb rfl (v_lss rfl rfl) fun b31 hb31 => ?_
  refine Ze (Zt ?_)
  refine w_cond rfl (fun hc31 => ?_) fun hc31 => ?_
  ·simp only [hb31, Qz, ne_eq] at hc31
   have hbf := ordF_lt.1 hc31
   refine Zr ?_
   refine Xm ?_
   refine Xv rfl (v_addi rfl rfl rfl Zo) ?_
   refine Xa ?_
   refine Ze (b_norm ?_)
   exact l_norm (((i + j) / 2) + 1, j) ⟨by dsimp only; omega, hjn, (fun q h hq => by
    rcases Nat.lt_succ_iff_lt_or_eq.1 hq with h9 | rfl
    ·exact befF_trans (List.pairwise_iff_getElem.1 hs q ((i + j) / 2) h hml h9) hbf
    exact hbf), hhi⟩ (by simp only; omega) Zu (fun _ h => h)
  simp only [hb31, Qz, ne_eq] at hc31
  have hnb : ¬befF fs[((i + j) / 2)] x := fun h => hc31 (ordF_lt.2 h)
  refine Zr ?_
  refine Xm ?_
  refine Xa ?_
  refine Ze (b_norm ?_)
  exact l_norm (i, ((i + j) / 2)) ⟨by dsimp only; omega, by dsimp only; omega, hlo, (fun q h hq => by
   rcases Nat.lt_or_eq_of_le hq with h9 | rfl
   ·exact fun hb => hnb (befF_trans (List.pairwise_iff_getElem.1 hs ((i + j) / 2) q hml h h9) hb)
   exact hnb)⟩ (by simp only; omega) Zu (fun _ h => h)
 simp only [hb17, Qz, ne_eq] at hc17
 obtain rfl : i = j := by omega
 have hp : posF fs x = i := posF_uniq hjn hlo (fun h => hhi i h (Nat.le_refl _))
 subst hp
 refine w_exit ?_
 refine t_exit ?_
 refine t_exit ?_
 refine b_hit ?_
 refine Zt (Zs ?_)
 refine rg_draw 16 [(true, 0), (true, 1), (true, 2), (true, 3), (true, 4), (true, 5), (true, 6), (true, 7), (true, 8), (true, 9), (true, 10), (true, 11), (true, 12), (true, 13), (true, 14), (true, 15)] Zk Zk ?_
 refine Xm ?_
 refine Xm ?_
 refine Xm ?_
 refine Xb rfl (v_lss rfl rfl) fun b38 hb38 => ?_
 refine Xm ?_
 refine Xg ?_
 refine Xg ?_
 refine Xg ?_
 refine x_if [] rfl rfl rfl rfl rfl (v := .pointer (some ⟨(match R with | some r => r.1 | none => 0), posF fs x * 6, none⟩)) (fun hg => by obtain ⟨hg0, _⟩ := hg; subst hg0; (try simp only [Qy]); have hpl : posF fs x < fs.length := (by have := of_decide_eq_true hb38.symm; omega); obtain ⟨g9, cs9, c9, hR9, hcap9, hc9⟩ := fd_cell hR hpl; subst hR9; exact v_indexAddr (j := posF fs x) u24 sz28 rfl rfl hpl (Nat.zero_add _)) ?_
 refine x_if [] rfl rfl rfl rfl rfl (v := .agg (fs.getD (posF fs x) x).cells.toArray) (fun hg => by obtain ⟨hg0, _⟩ := hg; subst hg0; (try simp only [Qy]); have hpl : posF fs x < fs.length := (by have := of_decide_eq_true hb38.symm; omega); obtain ⟨g44, cs44, c44, hRg44, hcap44, hc44⟩ := fd_cell hR hpl; have hcell44 : ∀ i9 v, (fs[posF fs x].cells)[i9]? = some v → w.cell? ⟨g44, posF fs x * 6 + i9, none⟩ = some v := fun i9 v hv => (by have hg := hW (g44, .cells cs44.toArray 28 (0, 0)) (by rw [hRg44]; exact .head _); have hi : i9 < 6 := (List.getElem?_eq_some_iff.1 hv).1; rw [cell_of_row w g44 _ _ 28 (0, 0) hg, List.getElem?_toArray, hc44 i9 hi]; exact hv); subst hRg44; rw [show (fs.getD (posF fs x) x) = fs[posF fs x] from (by rw [List.getD_eq_getElem?_getD, List.getElem?_eq_getElem hpl]; rfl)]; exact v_loadN (vs := fs[posF fs x].cells) u28 rfl sz28 rfl (fun i hi => at_ro (.head _) trivial (hcell44 i _ (List.getElem?_eq_getElem hi)))) ?_
 refine x_if [] rfl rfl rfl rfl rfl (v := Value.agg x.cells.toArray) (fun hg => by obtain ⟨hg0, _⟩ := hg; subst hg0; (try simp only [Qy]); exact v_load_blk u28 rfl rfl (.head _) (by exact sz28)) ?_
 refine x_cl_if (cap := #[]) [] (v := Vi (ordF (fs.getD (posF fs x) x) x)) rfl rfl rfl rfl rfl Tryz.func41 Zk (fun hg => by obtain ⟨hg0, _⟩ := hg; subst hg0; (try simp only [Qy]); exact ⟨_, rfl, rfl, fun w1 hw1 => by simpa using k_order (fs.getD (posF fs x) x) x w1⟩) ?_
 refine Xj rfl rfl rfl (fun hg0 => by subst hg0; (try simp only [Qy]); exact v_eql rfl rfl) fun b47 hb47 => ?_
 refine Xb rfl (v_and rfl rfl) fun b48 hb48 => ?_
 refine Xa ?_
 refine Xa ?_
 refine Ze (Zt (w_ret ?_))
 refine ret2 rfl rfl rfl (fun w' hm => ⟨?_, hm.base (by simp)⟩)
 rw [show b48 = knwF fs x from ?_]
 rw [hb48, hb47, hb38, Bool.eq_iff_iff]
 simp only [Bool.and_eq_true, decide_eq_true_eq]
 constructor
 ·rintro ⟨h1, h2⟩
  have hpl : posF fs x < fs.length := by omega
  rw [show (fs.getD (posF fs x) x) = fs[posF fs x] from by rw [List.getD_eq_getElem?_getD, List.getElem?_eq_getElem hpl]; rfl] at h2
  exact knw_is (h := hpl) (ordF_eq.1 h2)
 intro hk
 obtain ⟨hpl, h2⟩ := knw_at hs hk
 refine ⟨by omega, ?_⟩
 rw [show (fs.getD (posF fs x) x) = fs[posF fs x] from by rw [List.getD_eq_getElem?_getD, List.getElem?_eq_getElem hpl]; rfl]
 exact ordF_eq.2 h2
end Go.Proofs.YtnflcekodobdlaaGreatDoor
