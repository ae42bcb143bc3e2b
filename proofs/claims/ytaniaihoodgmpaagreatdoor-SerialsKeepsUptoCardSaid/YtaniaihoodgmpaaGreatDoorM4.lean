/- Of the proofs of YtaniaihoodgmpaaGreatDoor: Wd We Xh Xi Xj Xm Wf Wg Wh Wi Wj Wk Wl Wm Wn Wo, put together. -/
import Derived.Test.YtaniaihoodgmpaaGreatDoorM3
import Derived.Test.YtaniaihoodgmpaaGreatDoorM1
import Derived.Test.YtaniaihoodgmpaaGreatDoorM2
import Derived.Lib.SmallJoins
import Derived.Test.YtaniaihoodgmpaaGreatDoorShelfS
set_option linter.unusedVariables false
set_option linter.unusedSimpArgs false
set_option maxRecDepth 100000

namespace Go.Proofs.YtaniaihoodgmpaaGreatDoor
open Go.RowKit Go.PK
structure LD (w : World) : Prop where
  tab : Lib.TabIs Tryz.prog w "internal/strconv.uint64pow10" .u64 Lib.pow10Tab
  cel : ∃ m, w.cell? ⟨0, 0, none⟩ = some (.int .i64 m)
  syn : ∃ tp p, w.var? Tryz.prog "strconv.ErrSyntax" = some #[.iface tp p]
  rng : ∃ tp p, w.var? Tryz.prog "strconv.ErrRange" = some #[.iface tp p]
theorem LD.later {w w' : World} (h : LD w) (hl : Later w w') : LD w' := by
 obtain ⟨h1, ⟨m, h2⟩, ⟨t1, p1, h3⟩, ⟨t2, p2, h4⟩⟩ := h
 exact ⟨Joins.tab_stays (g := Tryz.prog.globalNamed "internal/strconv.uint64pow10" |>.getD 0) Zk h1 hl (Nat.le_refl _), ⟨m, by rw [cell_keep (hl.block 0 (cell_lt (p := ⟨0, 0, none⟩) h2))]; exact h2⟩,
  ⟨t1, p1, Joins.var_stays (g := Tryz.prog.globalNamed "strconv.ErrSyntax" |>.getD 0) Zk h3 hl (Nat.le_refl _)⟩, ⟨t2, p2, Joins.var_stays (g := Tryz.prog.globalNamed "strconv.ErrRange" |>.getD 0) Zk h4 hl (Nat.le_refl _)⟩⟩
theorem c_Itoa (n : Int) (w : World) (hn : in64 n) (hL : LD w) :
  Calls Tryz.prog 74 #[.int .i64 n] w fun e w' => e = .returned (.string (itoaS n)) ∧ Later w w' :=
 (Tryz.strconv_Itoa n hn.1 hn.2 w hL.tab).mono fun e w' ⟨h1, k, os, h2⟩ => ⟨h1, by rw [h2]; exact later_grow w k os⟩
theorem c50 (n : Int) (w : World) (hn : in64 n) (hL : LD w) :
  Calls Tryz.prog 74 #[.int .i64 n] w fun e w' => e = .returned (.string ⟨(Lib.itoa n).toArray⟩) ∧ Later w w' := c_Itoa n w hn hL
theorem c_Atoi (s : ByteArray) (w : World) (hs : s.size ≤ 281474976710656) (hL : LD w) :
  Calls Tryz.prog 68 #[.string s] w fun e w' => ∃ n ev b, e = .returned (.tuple #[.int .i64 n, ev]) ∧ Later w w' ∧ isIface ev b ∧ (b = false → Lib.atoiAll (bl s) = .ok n) ∧ (b = true → ∀ v, Lib.atoiAll (bl s) ≠ .ok v) := by
 obtain ⟨_, _, ⟨tp, p, h1⟩, ⟨tp2, p2, h2⟩⟩ := hL
 rcases hq : Lib.atoiAll s.data.toList with v | _ | _
 ·refine (Tryz.strconv_Atoi_ok s (by omega) v hq w).mono fun e w' ⟨h3, h4⟩ => ⟨v, .nilIface, false, h3, ?_, .inl ⟨rfl, rfl⟩, fun _ => hq, (fun h => by cases h)⟩
  rcases h4 with rfl | ⟨t, rfl⟩
  ·exact Later.refl _
  exact Lib.bytesWorld_below w _ t
 ·exact (Any.strconv_Atoi_syntax_var Tryz.laysC172 s hs hq tp p w h1).mono fun e w' ⟨N, h3, _, _, h4⟩ => ⟨_, _, true, h3, h4, .inr ⟨⟨_, _, rfl⟩, rfl⟩, (fun h => by cases h), (fun _ v h => by rw [show bl s = s.data.toList from rfl, hq] at h; cases h)⟩
 exact (Tryz.strconv_Atoi_range_var s hs hq tp2 p2 w h2).mono fun e w' ⟨N, h3, _, _, h4⟩ => ⟨_, _, true, h3, h4, .inr ⟨⟨_, _, rfl⟩, rfl⟩, (fun h => by cases h), (fun _ v h => by rw [show bl s = s.data.toList from rfl, hq] at h; cases h)⟩
def numO (s : ByteArray) : Int := (Lib.atoi s.data.toList).getD 0
theorem c42 (s : ByteArray) (w : World) (hs : s.size ≤ 18) (hL : LD w) :
  Calls Tryz.prog 68 #[.string s] w fun e w' => ∃ v, e = .returned v ∧ Later w w' ∧ ∃ ev, v = .tuple #[.int .i64 (numO s), ev] := by
 cases h : Lib.atoi s.data.toList with
 | none =>
  obtain ⟨_, _, ⟨tp, p, h2⟩, _⟩ := hL
  refine (Tryz.strconv_Atoi_err_var s hs h tp p w h2).mono fun e w' ⟨N, h1, _, _, h3⟩ => ⟨_, h1, h3, .iface 164 (.pointer (some ⟨N, 0, none⟩)), ?_⟩
  rw [show numO s = 0 from by unfold numO; rw [h]; rfl]
 | some n =>
  refine (Tryz.strconv_Atoi s n hs h w).mono fun e w' ⟨h1, t, h2⟩ => ⟨_, h1, by rw [h2]; exact Lib.bytesWorld_below w _ t, .nilIface, ?_⟩
  rw [show numO s = n from by unfold numO; rw [h]; rfl]
theorem c_Cut (s sep : ByteArray) (w : World) (hs : s.size ≤ 2000000000) (hL : LD w) :
  Calls Tryz.prog 38 #[.string s, .string sep] w fun e w' => e = .returned (.tuple #[.string (cutG s sep).1, .string (cutG s sep).2.1, .bool (cutG s sep).2.2]) ∧ Later w w' := by
 obtain ⟨_, ⟨m, hm⟩, _⟩ := hL
 refine (Tryz.strings_Cut s sep m w (by omega) hm).mono fun e w' ⟨h1, n, h2⟩ => ⟨h1, ?_⟩
 rw [h2]; exact ⟨rfl, rfl, rfl, Nat.le_refl _, fun _ _ => rfl⟩
theorem c_CutPre (s p : ByteArray) (w : World) :
  Calls Tryz.prog 37 #[.string s, .string p] w fun e w' => e = .returned (.tuple #[.string ⟨(Lib.trimPrefix (bl s) (bl p)).toArray⟩, .bool (Lib.hasPrefix (bl s) (bl p))]) ∧ Later w w' :=
 (Tryz.strings_CutPrefix s p w).mono fun e w' ⟨h1, h2⟩ => ⟨h1, by rw [h2]; exact Later.refl w⟩
theorem pow10_le {k : Nat} (h : k ≤ 4) : (10 : Int) ^ k ≤ 10000 := by
 match k, h with
 | 0, _ | 1, _ | 2, _ | 3, _ | 4, _ => decide
theorem ext_le (s : ByteArray) {a b : Nat} (h : b - a ≤ 4) : (s.extract a b).size ≤ 4 := by rw [ByteArray.size_extract]; omega
theorem splitG_len {s sep : ByteArray} (h : 1 ≤ sep.size) : (splitG s sep).length = Lib.countB s sep + 1 := Lib.splitB_all sep h 0 _ s rfl
theorem c38 (n : Int) (m : Nat) (w : World) (h0 : 0 ≤ n) (h : n < 10 ^ m) (hm : 1 ≤ m ∧ m ≤ 4) (hL : LD w) :
  Calls Tryz.prog 106 #[.int .i64 n, .int .i64 (m : Nat)] w fun e w' => e = .returned (.string (lowD n m)) ∧ Later w w' := by
 obtain ⟨i0, i1, i2, i3, i4⟩ := itoa_low h0 h hm.1
 have hn : in64 n := by have := pow10_le hm.2; unfold in64; omega
 refine enter (vs := [.int .i64 n, .int .i64 (m : Nat)]) Tryz.func106 rfl Tryz.ntmps106 rfl ?_
 refine Zs (Zr ?_)
 refine Xa ?_
 refine Ze (Zt (Zs (Zr ?_)))
 refine Xm ?_
 refine x_callv (v := Value.string (lowD n i0)) rfl rfl rfl Tryz.func74 Zk rfl (fun w1 hw1 => by rw [← i4]; exact c50 _ w1 hn (hL.later (hw1.base (by simp)))) ?_

 refine Xa ?_
 refine Ze (Zt (Zs (w_block ?_)))
 refine w_loop (σ := Nat) (fun i => 1 ≤ i ∧ i ≤ m ∧ n < 10 ^ i) (fun i => [(1, Value.int .i64 (m : Nat)), (5, Value.string (lowD n i))]) (fun i => []) (fun i => [(w, fun _ => True)]) (fun i => m - i) (i0) (⟨i1, i2, i3⟩) (l_start Zu (fun _ h => h)) ?_
 rintro i ⟨hi1, hi2, hi3⟩
 refine w_state ([(1, Value.int .i64 (m : Nat)), (5, Value.string (lowD n i))]) ([]) ([(w, fun _ => True)]) ?_
 have hsz : (lowD n i).size = i := lowD_size n i
 refine Zs (Zs (Zr ?_))
 refine Xm ?_
 refine Xv rfl (v_len_str u9 rfl) ?_
 refine Xm ?_
 refine Xb rfl (v_lss rfl rfl) fun b11 hb11 => ?_
 refine Ze (Zt ?_)
 refine w_cond rfl (fun hc11 => ?_) (fun hc11 => ?_)
 ·simp only [hb11, Qz, ne_eq] at hc11
  refine w_skip (Zt (w_block (Zr ?_)))
  refine Xm ?_
  refine Xv rfl (v_sadd rfl rfl (by rw [hsz]; show 1 + i ≤ _; omega)) ?_

  refine Xa ?_
  refine Ze (b_norm ?_)
  rw [← lowD_pad h0 hi3]
  exact l_norm (i + 1) ⟨by omega, by omega, by have := pow10_pos i; rw [Int.pow_succ]; omega⟩ (by omega) Zu (fun _ h => h)
 simp only [hb11, Qz, ne_eq] at hc11
 refine w_exit ?_
 refine t_exit ?_
 refine t_exit ?_
 refine b_hit ?_
 refine Zt (Zs (Zr ?_))
 refine Xm ?_
 refine Xa ?_
 refine Ze (Zt (w_ret ?_))
 refine ret1 rfl rfl (fun w' hm => ⟨?_, hm.base (by simp)⟩)
 rw [show i = m by omega]
open Go.RowKit Go.PK
theorem decFrom_lt : ∀ (l : List UInt8) (acc n : Nat), Lib.decFrom acc l = some n → n + 1 ≤ (acc + 1) * 10 ^ l.length
 | [], acc, n, h => by
  simp only [Lib.decFrom, Option.some.injEq] at h
  subst h
  simp
 | c :: l, acc, n, h => by
  unfold Lib.decFrom Lib.digitVal at h
  split at h
  ·rename_i d hd
   split at hd
   ·rename_i hc
    simp only [Option.some.injEq] at hd
    have ih := decFrom_lt l _ n h
    have h2 : acc * 10 + d + 1 ≤ (acc + 1) * 10 := by omega
    rw [List.length_cons, Nat.pow_succ, Nat.mul_comm (10 ^ l.length), ← Nat.mul_assoc]
    exact Nat.le_trans ih (Nat.mul_le_mul_right _ h2)
   cases hd
  cases h
theorem numO_in {s : ByteArray} (h : s.size ≤ 4) : in64 (numO s) := by
 have hl : s.data.toList.length ≤ 4 := h
 have pw : ∀ k, k ≤ 4 → (10 : Nat) ^ k ≤ 10000 := fun k hk => by
  match k, hk with
  | 0, _ | 1, _ | 2, _ | 3, _ | 4, _ => decide
 have nat : ∀ (l : List UInt8), l.length ≤ 4 → ∀ n, Lib.decNat l = some n → n ≤ 10000 := fun l hl n h => by
  unfold Lib.decNat at h
  split at h
  ·cases h
  have := decFrom_lt l 0 n h
  have := pw _ hl
  omega
 have key : ∀ (l : List UInt8), l.length ≤ 4 → ∀ n, Lib.atoi l = some n → -10000 ≤ n ∧ n ≤ 10000 := fun l hl n h => by
  match l, hl, h with
  | [], _, h => cases h
  | c :: r, hl, h =>
   have hr : r.length ≤ 4 := by simp at hl; omega
   change (if (c == 45) = true then (Lib.decNat r).map fun (m : Nat) => -(m : Int) else if (c == 43) = true then (Lib.decNat r).map fun (m : Nat) => (m : Int) else (Lib.decNat (c :: r)).map fun (m : Nat) => (m : Int)) = some n at h
   split at h
   ·obtain ⟨k, hk, rfl⟩ := Option.map_eq_some_iff.1 h
    have := nat r hr k hk
    omega
   split at h
   ·obtain ⟨k, hk, rfl⟩ := Option.map_eq_some_iff.1 h
    have := nat r hr k hk
    omega
   obtain ⟨k, hk, rfl⟩ := Option.map_eq_some_iff.1 h
   have := nat _ hl k hk
   omega
 unfold numO in64
 cases h : Lib.atoi s.data.toList with
 | none => decide
 | some n => have := key _ hl n h; simp only [Option.getD_some]; omega
def yO (s : ByteArray) : Int := numO (s.extract 0 4)
def mO (s : ByteArray) : Int := numO (s.extract 5 7)
def dO (s : ByteArray) : Int := numO (s.extract 8 10)
open Classical in
noncomputable def readC (s : ByteArray) : Int × Int := if s.size = 10 ∧ validD (yO s) (mO s) (dO s) ∧ textR (dayV (yO s) (mO s) (dO s)) = s then (dayV (yO s) (mO s) (dO s), 0) else (0, 11)
theorem dayV_in {y m d : Int} : in64 (dayV y m d) := by
 unfold dayV
 split
 ·rename_i h
  have hc : Civ (dayN y m.toNat d) y m.toNat d := ⟨h.1, by have := h.2.2.1; omega, by have := h.2.2.2.1; omega, h.2.2.2.2.1, by rw [Int.toNat_of_nonneg (by have := h.2.2.1; omega)]; exact h.2.2.2.2.2, rfl⟩
  have ho : okDay (dayN y m.toNat d) := hc.range.2 h.2.1
  unfold okDay at ho
  unfold in64; omega
 unfold in64; decide
theorem c19 (n : Int) (w : World) (hn : in64 n) (hL : LD w) :
  Calls Tryz.prog 75 #[.int .i64 n] w fun e w' => e = .returned (.string (textR n)) ∧ Later w w' := by
 refine enter (vs := [.int .i64 n]) Tryz.func75 rfl Tryz.ntmps75 rfl ?_
 refine Zs (Zr ?_)
 refine Xa ?_
 refine Ze (Zt (Zs (Zs (Zr ?_))))
 refine Xm ?_
 refine x_callb rfl rfl rfl Tryz.func104 Zk rfl (fun w1 hw1 => c37 _ w1) fun b7 hb7 => ?_
 refine Xb rfl (v_not rfl) fun b8 hb8 => ?_
 refine Ze (Zt ?_)
 refine w_cond rfl (fun hc8 => ?_) (fun hc8 => ?_)
 ·simp only [hb8, hb7, Qz, ne_eq] at hc8
  have ho : ¬okDay n := by simpa using hc8
  refine Zs (Zr ?_)
  refine Xa ?_
  refine Ze (Zt (w_ret (t_ret ?_)))
  refine ret1 rfl rfl (fun w' hm => ⟨?_, hm.base (by simp)⟩)
  unfold textR; rw [if_neg ho]
 simp only [hb8, hb7, Qz, ne_eq] at hc8
 have ho : okDay n := by simpa using hc8
 obtain ⟨y1, y2, m1, m2, d1, d2⟩ := civ_rng ho
 refine w_skip (Zt (Zs (Zr ?_)))
 refine Xm ?_
 refine x_callv rfl rfl rfl Tryz.func105 Zk rfl (fun w1 hw1 => c15 _ w1) ?_
 refine Xm ?_
 refine Xv rfl (v_extract rfl rfl) ?_
 refine Xv rfl (v_extract rfl rfl) ?_
 refine Xv rfl (v_extract rfl rfl) ?_
 refine Xa ?_
 refine Xa ?_
 refine Xa ?_
 refine Ze (Zt (Zs (Zr ?_)))
 refine Xm ?_
 refine x_callv rfl rfl rfl Tryz.func106 Zk rfl (fun w1 hw1 => c38 _ 4 w1 (by omega) (by have := pow10_le (k := 4) (by decide); show _ < (10 : Int) ^ 4; simp only [show (10 : Int) ^ 4 = 10000 by decide, show (10 : Int) ^ 2 = 100 by decide]; omega) (by decide) (hL.later (hw1.base (by simp)))) ?_
 refine Xv rfl (v_sadd rfl rfl (by simp only [ByteArray.size_append, lowD_size]; decide)) ?_
 refine Xm ?_
 refine x_callv rfl rfl rfl Tryz.func106 Zk rfl (fun w1 hw1 => c38 _ 2 w1 (by omega) (by have := pow10_le (k := 4) (by decide); show _ < (10 : Int) ^ 2; simp only [show (10 : Int) ^ 4 = 10000 by decide, show (10 : Int) ^ 2 = 100 by decide]; omega) (by decide) (hL.later (hw1.base (by simp)))) ?_
 refine Xv rfl (v_sadd rfl rfl (by simp only [ByteArray.size_append, lowD_size]; decide)) ?_
 refine Xv rfl (v_sadd rfl rfl (by simp only [ByteArray.size_append, lowD_size]; decide)) ?_
 refine Xm ?_
 refine x_callv rfl rfl rfl Tryz.func106 Zk rfl (fun w1 hw1 => c38 _ 2 w1 (by omega) (by have := pow10_le (k := 4) (by decide); show _ < (10 : Int) ^ 2; simp only [show (10 : Int) ^ 4 = 10000 by decide, show (10 : Int) ^ 2 = 100 by decide]; omega) (by decide) (hL.later (hw1.base (by simp)))) ?_
 refine Xv rfl (v_sadd rfl rfl (by simp only [ByteArray.size_append, lowD_size]; decide)) ?_
 refine Xa ?_
 refine Ze (Zt (w_ret ?_))
 refine ret1 rfl rfl (fun w' hm => ⟨?_, hm.base (by simp)⟩)
 unfold textR; rw [if_pos ho]
theorem c41 (s : ByteArray) (p a b : Nat) (w : World) (hp : w.cell? ⟨p, 0, none⟩ = some (.string s)) (hab : a ≤ b) (hbs : b ≤ s.size) (h4 : b - a ≤ 4) (hL : LD w) :
  Calls Tryz.prog 98 #[.int .i64 (a : Nat), .int .i64 (b : Nat), .pointer (some ⟨p, 0, none⟩)] w fun e w' => e = .returned (.int .i64 (numO (s.extract a b))) ∧ Later w w' := by
 refine enter (vs := [.int .i64 (a : Nat), .int .i64 (b : Nat), .pointer (some ⟨p, 0, none⟩)]) Tryz.func98 rfl Tryz.ntmps98 rfl ?_
 refine Zs (Zr ?_)
 refine Xa ?_
 refine Ze (Zt (Zs (Zr ?_)))
 refine Xv rfl (Vl u9 rfl) ?_
 refine Xm ?_
 refine Xm ?_
 refine Xv rfl (v_cut u9 rfl rfl rfl Zo Zo) ?_
 refine x_call rfl rfl rfl Tryz.func68 Zk rfl (fun w1 hw1 => c42 _ w1 (by rw [ByteArray.size_extract]; omega) (hL.later (hw1.base (by simp)))) fun v13 wa13 wb13 hm13 hl13 hr13 => ?_
 obtain ⟨ev13, rfl⟩ := hr13
 refine Xm ?_
 refine Xv rfl (v_extract rfl rfl) ?_
 refine Xv rfl (v_extract rfl rfl) ?_
 refine Xa ?_
 refine Xa ?_
 refine Ze (Zt (Zs (Zr ?_)))
 refine Xm ?_
 refine Xa ?_
 refine Ze (Zt (w_ret ?_))
 refine ret1 rfl rfl (fun w' hm => ⟨?_, hm.base (by simp)⟩)
 rfl
theorem c21 (s : ByteArray) (w : World) (hs : okS s) (hL : LD w) :
  Calls Tryz.prog 69 #[.string s] w fun e w' => e = .returned (.tuple #[.int .i64 (readC s).1, .int .i64 (readC s).2]) ∧ Later w w' := by
 refine enter (vs := [.string s]) Tryz.func69 rfl Tryz.ntmps69 rfl ?_
 refine Zs (Zr ?_)
 refine x_box rfl rfl rfl rfl ?_
 intro p1
 refine Xa ?_
 refine Xa ?_
 refine Ze (Zt (Zs (Zs (Zr ?_))))
 refine Xv rfl (Vl u9 rfl) ?_
 refine Xv rfl (v_len_str u9 rfl) ?_
 refine Xb rfl (v_neq rfl rfl) fun b9 hb9 => ?_
 refine Ze (Zt ?_)
 refine w_cond rfl (fun hc9 => ?_) (fun hc9 => ?_)
 ·simp only [hb9, Qz, ne_eq] at hc9
  have hf : ¬s.size = 10 := by omega
  refine Zs (Zr ?_)
  refine Xa ?_
  refine Xa ?_
  refine Ze (Zt (w_ret (t_ret ?_)))
  refine ret2 rfl rfl rfl (fun w' hm => ⟨?_, hm.base (by simp)⟩)
  rw [show readC s = (0, 11) from by unfold readC; rw [if_neg (fun h => hf h.1)]]
 simp only [hb9, Qz, ne_eq] at hc9
 have h10 : s.size = 10 := by omega
 refine w_skip (Zt (Zs (Zr ?_)))
 refine Xv rfl (v_func rfl) ?_
 refine Xa ?_
 refine Ze (Zt (Zs (Zr ?_)))
 refine Xm ?_
 refine x_clv rfl rfl rfl rfl Tryz.func98 Zk rfl (fun w1 hw1 => c41 s p1 0 4 w1 (hw1.cell_own (cs := #[Value.string s]) (.head _) 0) (by decide) (by omega) (by decide) (hL.later (hw1.base (by simp)))) ?_
 refine Xm ?_
 refine x_clv rfl rfl rfl rfl Tryz.func98 Zk rfl (fun w1 hw1 => c41 s p1 5 7 w1 (hw1.cell_own (cs := #[Value.string s]) (.head _) 0) (by decide) (by omega) (by decide) (hL.later (hw1.base (by simp)))) ?_
 refine Xm ?_
 refine x_clv rfl rfl rfl rfl Tryz.func98 Zk rfl (fun w1 hw1 => c41 s p1 8 10 w1 (hw1.cell_own (cs := #[Value.string s]) (.head _) 0) (by decide) (by omega) (by decide) (hL.later (hw1.base (by simp)))) ?_
 refine x_callv rfl rfl rfl Tryz.func99 Zk rfl (fun w1 hw1 => c13 _ _ _ w1 (numO_in (ext_le s (by omega)))) ?_
 refine Xm ?_
 refine Xv rfl (v_extract rfl rfl) ?_
 refine Xb rfl (v_extract rfl rfl) fun b20 hb20 => ?_
 refine Xa ?_
 refine Xa ?_
 refine Ze (Zt (Zs (Zs ?_)))
 refine rg_draw 8 [(true, 0), (true, 1), (true, 2), (true, 3), (true, 4), (true, 5), (true, 6), (true, 7)] Zk Zk ?_
 refine Xm ?_
 refine Xb rfl (v_not rfl) fun b22 hb22 => ?_
 refine Xm ?_
 refine Xg ?_
 refine x_call_if [] rfl rfl rfl rfl rfl Tryz.func75 Zk (fun hg => by obtain ⟨hg0, _⟩ := hg; subst hg0; (try simp only [Qy]); refine ⟨_, rfl, ?_⟩; exact fun w1 hw1 => c19 _ w1 dayV_in (hL.later (hw1.base (by simp)))) ?_
 refine Xi rfl rfl rfl (fun hg0 => by subst hg0; (try simp only [Qy]); exact Vl u9 rfl) ?_
 refine Xj rfl rfl rfl (fun hg0 => by subst hg0; (try simp only [Qy]); exact v_sneq rfl rfl) fun b27 hb27 => ?_
 refine Xb rfl (v_or rfl rfl) fun b28 hb28 => ?_
 refine Ze (Zt ?_)
 refine w_cond rfl (fun hc28 => ?_) (fun hc28 => ?_)
 ·simp only [hb28, hb27, hb22, hb20, Qz, ne_eq] at hc28
  refine Zs (Zr ?_)
  refine Xa ?_
  refine Xa ?_
  refine Ze (Zt (w_ret (t_ret ?_)))
  refine ret2 rfl rfl rfl (fun w' hm => ⟨?_, hm.base (by simp)⟩)
  rw [show readC s = (0, 11) from by unfold readC yO mO dO; rw [if_neg (fun h => hc28.elim (fun hc => hc h.2.1) (fun hc => hc h.2.2))]]
 simp only [hb28, hb27, hb22, hb20, Qz, ne_eq] at hc28
 refine w_skip (Zt (Zs (Zr ?_)))
 refine Xm ?_
 refine Xa ?_
 refine Xa ?_
 refine Ze (Zt (w_ret ?_))
 refine ret2 rfl rfl rfl (fun w' hm => ⟨?_, hm.base (by simp)⟩)
 rw [show readC s = (dayV (yO s) (mO s) (dO s), 0) from by unfold readC; rw [if_pos ⟨h10, hc28.1, hc28.2⟩]]; rfl
open Go.RowKit Go.PK
def isDig (c : UInt8) : Prop := 48 ≤ c.toNat ∧ c.toNat ≤ 57
def valTo (s : ByteArray) : Nat → Int
  | 0 => 0
  | k + 1 => 10 * valTo s k + ((byteAt s k).toNat - 48)
def allDig (s : ByteArray) : Prop := ∀ j, j < s.size → isDig (byteAt s j)
instance (s : ByteArray) : Decidable (allDig s) := by unfold allDig isDig; infer_instance
def numR (s : ByteArray) : Int × Bool := if allDig s then (valTo s s.size, true) else (0, false)
open Go.RowKit Go.PK
def part (s : ByteArray) (a b : Nat) : Int × Bool := numR (s.extract a b)
def formD (s : ByteArray) : Prop := s.size = 10 ∧ byteAt s 4 = 45 ∧ byteAt s 7 = 45
instance (s : ByteArray) : Decidable (formD s) := by unfold formD; infer_instance
def readR (s : ByteArray) : Int × Int :=
  if formD s ∧ (part s 0 4).2 = true ∧ (part s 5 7).2 = true ∧ (part s 8 10).2 = true ∧ validD (part s 0 4).1 (part s 5 7).1 (part s 8 10).1 then (dayV (part s 0 4).1 (part s 5 7).1 (part s 8 10).1, 0) else (0, 11)
open Go.RowKit Go.PK
theorem c40 (n m : Int) (w : World) (hn : 0 ≤ n ∧ n ≤ 9999) (hm : 0 ≤ m ∧ m ≤ 4) :
  Calls Tryz.prog 91 #[.int .i64 n, .int .i64 m] w fun e w' => e = .returned (.string (lowD n m.toNat)) ∧ Later w w' := by
 refine enter (vs := [.int .i64 n, .int .i64 m]) Tryz.func91 rfl Tryz.ntmps91 rfl ?_
 refine Zs (Zr ?_)
 refine Xa ?_
 refine Ze (Zt (Zs (Zr ?_)))
 refine Xa ?_
 refine Ze (Zt (Zs (Zs (Zr ?_))))
 refine Xa ?_
 refine Ze (Zt (w_block ?_))
 refine w_loop (σ := Nat × Int × ByteArray) (fun x => (x.1 : Int) ≤ m ∧ x.2.1 = n / 10 ^ x.1 ∧ x.2.2 = lowD n x.1) (fun x => [(0, Value.int .i64 x.2.1), (1, Value.int .i64 m), (5, Value.string x.2.2), (6, Value.int .i64 (x.1 : Nat))]) (fun x => []) (fun x => [(w, fun _ => True)]) (fun x => (m - x.1).toNat) ((0, n, ⟨#[]⟩)) (⟨by dsimp only; omega, by simp, rfl⟩) (l_start Zu (fun _ h => h)) ?_
 rintro ⟨i, a, out⟩ ⟨hi, ha, ho⟩
 refine w_state ([(0, Value.int .i64 a), (1, Value.int .i64 m), (5, Value.string out), (6, Value.int .i64 (i : Nat))]) ([]) ([(w, fun _ => True)]) ?_
 dsimp only at hi ha ho
 have ha0 : 0 ≤ a := by rw [ha]; exact Int.ediv_nonneg hn.1 (Int.le_of_lt (Int.pow_pos (by decide)))
 have ha1 : a ≤ n := by rw [ha]; exact Int.ediv_le_self _ hn.1
 have hos : out.size = i := by rw [ho, lowD_size]
 have ht := Int.tmod_eq_emod_of_nonneg (b := 10) ha0
 refine Zs (Zs (Zr ?_))
 refine Xm ?_
 refine Xm ?_
 refine Xb rfl (v_lss rfl rfl) fun b9 hb9 => ?_
 refine Ze (Zt ?_)
 refine w_cond rfl (fun hc9 => ?_) (fun hc9 => ?_)
 ·simp only [hb9, Qz, ne_eq] at hc9
  skip
  refine w_skip (Zt (Zs (w_block (Zs (Zr ?_)))))
  refine Xm ?_
  refine Xv rfl (v_rem rfl rfl Zo) ?_
  refine Xv rfl (v_addi rfl rfl rfl Zo) ?_
  refine Xv (v := Value.int .u8 ((UInt8.ofNat (48 + (a % 10).toNat)).toNat : Nat)) rfl (by rw [← dig_c ha0]; exact v_conv u3 u5 rfl) ?_
  refine x_buildSliceL rfl rfl rfl u45 sz5 zr5 rfl rfl rfl ?_
  intro p16
  refine Xv rfl (v_toStr [UInt8.ofNat (48 + (a % 10).toNat)] u45 u5 u9 rfl rfl (fun j hj => at_ownL (vs := [Value.int .u8 (UInt8.ofNat (48 + (a % 10).toNat)).toNat]) (.head _) (by match j, hj with | 0, _ => rfl))) ?_
  refine Xm ?_
  refine Xv rfl (v_sadd rfl rfl (by rw [hos]; show 1 + i ≤ _; omega)) ?_
  refine Xa ?_
  refine Ze (Zt (Zr ?_))
  refine Xm ?_
  refine Xv rfl (v_quoi (c := a / 10) rfl rfl (by decide) (Int.tdiv_eq_ediv_of_nonneg ha0) (by omega)) ?_
  refine Xa ?_
  refine Ze (b_norm (Zt (Zr ?_)))
  refine Xm ?_
  refine Xv rfl (v_addi rfl rfl rfl Zo) ?_
  refine Xa ?_
  refine Ze ?_
  exact l_norm (i + 1, a / 10, ⟨#[UInt8.ofNat (48 + (a % 10).toNat)]⟩ ++ out) ⟨by dsimp only; omega, by dsimp only; rw [ha, Int.ediv_ediv_of_nonneg (Int.le_of_lt (Int.pow_pos (by decide))), Int.pow_succ], by dsimp only; rw [ho, ha]; rfl⟩ (by simp only; omega) Zu (fun _ h => h.less (List.sublist_cons_self _ _) (fun _ h => h))
 simp only [hb9, Qz, ne_eq] at hc9
 refine w_exit ?_
 refine t_exit ?_
 refine t_exit ?_
 refine b_hit ?_
 refine Zt (Zs (Zr ?_))
 refine Xm ?_
 refine Xa ?_
 refine Ze (Zt (w_ret ?_))
 refine ret1 rfl rfl (fun w' hm => ⟨?_, hm.base (by simp)⟩)
 rw [ho, show m.toNat = i by omega]
theorem c20 (n : Int) (w : World) (hn : in64 n) :
  Calls Tryz.prog 61 #[.int .i64 n] w fun e w' => e = .returned (.string (textR n)) ∧ Later w w' := by
 refine enter (vs := [.int .i64 n]) Tryz.func61 rfl Tryz.ntmps61 rfl ?_
 refine Zs (Zr ?_)
 refine Xa ?_
 refine Ze (Zt (Zs (Zr ?_)))
 refine Xm ?_
 refine x_callb rfl rfl rfl Tryz.func89 Zk rfl (fun w1 hw1 => c39 _ w1) fun b8 hb8 => ?_
 refine Xa ?_
 refine Ze (Zt (Zs (Zs (Zr ?_))))
 refine Xm ?_
 refine Xb rfl (v_not rfl) fun b10 hb10 => ?_
 refine Ze (Zt ?_)
 refine w_cond rfl (fun hc10 => ?_) (fun hc10 => ?_)
 ·simp only [hb10, hb8, Qz, ne_eq] at hc10
  have ho : ¬okDay n := by simpa using hc10
  refine Zs (Zr ?_)
  refine Xa ?_
  refine Ze (Zt (w_ret (t_ret ?_)))
  refine ret1 rfl rfl (fun w' hm => ⟨?_, hm.base (by simp)⟩)
  unfold textR; rw [if_neg ho]
 simp only [hb10, hb8, Qz, ne_eq] at hc10
 have ho : okDay n := by simpa using hc10
 obtain ⟨y1, y2, m1, m2, d1, d2⟩ := civ_rng ho
 refine w_skip (Zt (Zs (Zr ?_)))
 refine Xm ?_
 refine x_callv rfl rfl rfl Tryz.func90 Zk rfl (fun w1 hw1 => c16 _ w1 hn) ?_
 refine Xm ?_
 refine Xv rfl (v_extract rfl rfl) ?_
 refine Xv rfl (v_extract rfl rfl) ?_
 refine Xv rfl (v_extract rfl rfl) ?_
 refine Xa ?_
 refine Xa ?_
 refine Xa ?_
 refine Ze (Zt (Zs (Zr ?_)))
 refine Xm ?_
 refine x_callv rfl rfl rfl Tryz.func91 Zk rfl (fun w1 hw1 => c40 _ _ w1 ⟨by omega, by omega⟩ ⟨by omega, by omega⟩) ?_
 refine Xv rfl (v_sadd rfl rfl (by simp only [ByteArray.size_append, lowD_size]; decide)) ?_
 refine Xm ?_
 refine x_callv rfl rfl rfl Tryz.func91 Zk rfl (fun w1 hw1 => c40 _ _ w1 ⟨by omega, by omega⟩ ⟨by omega, by omega⟩) ?_
 refine Xv rfl (v_sadd rfl rfl (by simp only [ByteArray.size_append, lowD_size]; decide)) ?_
 refine Xv rfl (v_sadd rfl rfl (by simp only [ByteArray.size_append, lowD_size]; decide)) ?_
 refine Xm ?_
 refine x_callv rfl rfl rfl Tryz.func91 Zk rfl (fun w1 hw1 => c40 _ _ w1 ⟨by omega, by omega⟩ ⟨by omega, by omega⟩) ?_
 refine Xv rfl (v_sadd rfl rfl (by simp only [ByteArray.size_append, lowD_size]; decide)) ?_
 refine Xa ?_
 refine Ze (Zt (w_ret ?_))
 refine ret1 rfl rfl (fun w' hm => ⟨?_, hm.base (by simp)⟩)
 unfold textR; rw [if_pos ho]; rfl
open Go.RowKit Go.PK
open Go.RowKit Go.PK
theorem text_some {n : Int} : decide (textR n ≠ ⟨#[]⟩) = decide (okDay n) := by
 by_cases h : okDay n
 ·rw [decide_eq_true h]
  refine decide_eq_true fun e => ?_
  have := congrArg ByteArray.size e
  unfold textR at this
  rw [if_pos h] at this
  simp only [ByteArray.size_append] at this
  have h2 : (⟨#[45]⟩ : ByteArray).size = 1 := rfl
  have h3 : (⟨#[]⟩ : ByteArray).size = 0 := rfl
  omega
 rw [decide_eq_false h]
 refine decide_eq_false fun e => e ?_
 unfold textR; rw [if_neg h]
theorem ap3 : (Tryz.prog.info? 3).map (fun j => (j.zero, j.size, j.bytes)) = some (some (.int .i64 0), 1, 8) := by kernel_rfl
def patRd (D : Nat → Prop) (w : World) (p : Pat) (v1 v2 : Value) : Prop := in64 p.first ∧ in64 p.days ∧ sliceRd tyI D w v1 p.lv ∧ sliceRd tyI D w v2 p.st
theorem patRd.keep {D D' : Nat → Prop} {w w' : World} {p : Pat} {v1 v2 : Value} (h : patRd D w p v1 v2) (hk : Kept D D' w w') : patRd D' w' p v1 v2 := ⟨h.1, h.2.1, h.2.2.1.keep hk, h.2.2.2.keep hk⟩
theorem c_isDay (d : Int) (w : World) (hd : in64 d) (hL : LD w) :
  Calls Tryz.prog 40 #[.int .i64 d] w fun e w' => e = .returned (.bool (decide (okDay d))) ∧ Later w w' := by
 refine enter (vs := [.int .i64 d]) Tryz.func40 rfl Tryz.ntmps40 rfl ?_
 refine Zs (Zr ?_)
 refine Xa ?_
 refine Ze (Zt (Zs (Zr ?_)))
 refine Xm ?_
 refine x_callv rfl rfl rfl Tryz.func75 Zk rfl (fun w1 hw1 => c19 _ w1 hd (hL.later (hw1.base (by simp)))) ?_
 refine Xb rfl (v_sneq rfl rfl) fun b5 hb5 => ?_
 refine Xa ?_
 refine Ze (Zt (w_ret ?_))
 refine ret1 rfl rfl (fun w' hm => ⟨?_, hm.base (by simp)⟩)
 rw [hb5, text_some]
theorem c_Right {D : Nat → Prop} {v1 v2 : Value} (p : Pat) (w : World) (hp : patRd D w p v1 v2) (hL : LD w) :
  Calls Tryz.prog 33 #[.agg #[.int .i64 p.first, .int .i64 p.days, v1, v2]] w fun e w' => e = .returned (.bool (decide (rightQ p))) ∧ Later w w' := by
 obtain ⟨hp1, hp2, h1, h2⟩ := id hp
 obtain ⟨A1, c1, rfl, hlc1, hmx1, hB1⟩ := id h1
 obtain ⟨A2, c2, rfl, hlc2, hmx2, hB2⟩ := id h2
 obtain ⟨bL, oL, hL0, hLk⟩ := rd_blk h1
 obtain ⟨bS, oS, hS0, hSk⟩ := rd_blk h2
 refine enter (vs := [.agg #[.int .i64 p.first, .int .i64 p.days, .slice A1 p.lv.length c1, .slice A2 p.st.length c2]]) Tryz.func33 rfl Tryz.ntmps33 rfl ?_
 refine Zs (Zr ?_)
 refine x_box rfl rfl rfl rfl ?_
 intro p1
 refine Xa ?_
 refine Ze (Zt (Zs (Zr ?_)))
 refine Xv rfl (v_fieldAddr (off' := 2) u26 rfl sz22 (by decide) rfl rfl) ?_
 refine Xv rfl (Vl u22 rfl) ?_
 refine Xv rfl (v_len_slice u22 rfl) ?_
 refine Xa ?_
 refine Ze (Zt (Zs (Zs (Zr ?_))))
 refine Xm ?_
 refine Xb rfl (v_lss rfl rfl) fun b9 hb9 => ?_
 refine Xm ?_
 refine Xg ?_
 refine Xj rfl rfl rfl (fun hg0 => by subst hg0; (try simp only [Qy]); exact v_gtr rfl rfl) fun b12 hb12 => ?_
 refine Xb rfl (v_or rfl rfl) fun b13 hb13 => ?_
 refine Xm ?_
 refine Xi rfl rfl rfl (fun hg0 => by subst hg0; (try simp only [Qy]); exact v_fieldAddr (off' := 3) u26 rfl sz22 (by decide) rfl rfl) ?_
 refine Xi rfl rfl rfl (fun hg0 => by subst hg0; (try simp only [Qy]); exact Vl u22 rfl) ?_
 refine Xi rfl rfl rfl (fun hg0 => by subst hg0; (try simp only [Qy]); exact v_len_slice u22 rfl) ?_
 refine Xg ?_
 refine Xj rfl rfl rfl (fun hg0 => by subst hg0; (try simp only [Qy]); exact v_neq rfl rfl) fun b19 hb19 => ?_
 refine Xb rfl (v_or rfl rfl) fun b20 hb20 => ?_
 refine Xm ?_
 refine Xi rfl rfl rfl (fun hg0 => by subst hg0; (try simp only [Qy]); exact v_fieldAddr (off' := 2) u26 rfl sz22 (by decide) rfl rfl) ?_
 refine Xi rfl rfl rfl (fun hg0 => by subst hg0; (try simp only [Qy]); exact Vl u22 rfl) ?_
 refine Xi rfl rfl rfl (fun hg0 => by subst hg0; (try simp only [Qy]); have g9 := hb20.symm; simp only [hb19, hb13, hb12, hb9, Bool.or_eq_false_iff, decide_eq_false_iff_not, ne_eq, Decidable.not_not] at g9; exact v_indexAddr (j := 0) u22 sz3 (congrArg (fun A => some (Value.slice A p.lv.length c1)) (hL0 (by omega)).1) rfl Zo rfl) ?_
 refine Xi rfl rfl rfl (fun hg0 => by subst hg0; (try simp only [Qy]); have g9 := hb20.symm; simp only [hb19, hb13, hb12, hb9, Bool.or_eq_false_iff, decide_eq_false_iff_not, ne_eq, Decidable.not_not] at g9; exact v_load u3 rfl rfl (at_ro (.head _) trivial (by rw [Nat.mul_one]; exact (hLk (0) (by omega)).1))) ?_
 refine Xj rfl rfl rfl (fun hg0 => by subst hg0; (try simp only [Qy]); exact v_neq rfl rfl) fun b26 hb26 => ?_
 refine Xb rfl (v_or rfl rfl) fun b27 hb27 => ?_
 refine Xm ?_
 refine Xi rfl rfl rfl (fun hg0 => by subst hg0; (try simp only [Qy]); exact v_fieldAddr (off' := 3) u26 rfl sz22 (by decide) rfl rfl) ?_
 refine Xi rfl rfl rfl (fun hg0 => by subst hg0; (try simp only [Qy]); exact Vl u22 rfl) ?_
 refine Xi rfl rfl rfl (fun hg0 => by subst hg0; (try simp only [Qy]); have g9 := hb27.symm; simp only [hb26, hb20, hb19, hb13, hb12, hb9, Bool.or_eq_false_iff, decide_eq_false_iff_not, ne_eq, Decidable.not_not] at g9; exact v_indexAddr (j := 0) u22 sz3 (congrArg (fun A => some (Value.slice A p.st.length c2)) (hS0 (by omega)).1) rfl Zo rfl) ?_
 refine Xi rfl rfl rfl (fun hg0 => by subst hg0; (try simp only [Qy]); have g9 := hb27.symm; simp only [hb26, hb20, hb19, hb13, hb12, hb9, Bool.or_eq_false_iff, decide_eq_false_iff_not, ne_eq, Decidable.not_not] at g9; exact v_load u3 rfl rfl (at_ro (.head _) trivial (by rw [Nat.mul_one]; exact (hSk (0) (by omega)).1))) ?_
 refine Xj rfl rfl rfl (fun hg0 => by subst hg0; (try simp only [Qy]); exact v_lss rfl rfl) fun b33 hb33 => ?_
 refine Xb rfl (v_or rfl rfl) fun b34 hb34 => ?_
 refine Xm ?_
 refine Xi rfl rfl rfl (fun hg0 => by subst hg0; (try simp only [Qy]); exact v_fieldAddr (off' := 3) u26 rfl sz22 (by decide) rfl rfl) ?_
 refine Xi rfl rfl rfl (fun hg0 => by subst hg0; (try simp only [Qy]); exact Vl u22 rfl) ?_
 refine Xi rfl rfl rfl (fun hg0 => by subst hg0; (try simp only [Qy]); have g9 := hb34.symm; simp only [hb33, hb27, hb26, hb20, hb19, hb13, hb12, hb9, Bool.or_eq_false_iff, decide_eq_false_iff_not, ne_eq, Decidable.not_not] at g9; exact v_indexAddr (j := 0) u22 sz3 (congrArg (fun A => some (Value.slice A p.st.length c2)) (hS0 (by omega)).1) rfl Zo rfl) ?_
 refine Xi rfl rfl rfl (fun hg0 => by subst hg0; (try simp only [Qy]); have g9 := hb34.symm; simp only [hb33, hb27, hb26, hb20, hb19, hb13, hb12, hb9, Bool.or_eq_false_iff, decide_eq_false_iff_not, ne_eq, Decidable.not_not] at g9; exact v_load u3 rfl rfl (at_ro (.head _) trivial (by rw [Nat.mul_one]; exact (hSk (0) (by omega)).1))) ?_
 refine Xj rfl rfl rfl (fun hg0 => by subst hg0; (try simp only [Qy]); exact v_gtr rfl rfl) fun b40 hb40 => ?_
 refine Xb rfl (v_or rfl rfl) fun b41 hb41 => ?_
 refine Ze (Zt ?_)
 refine w_cond rfl (fun hc41 => ?_) (fun hc41 => ?_)
 ·simp only [hb41, hb40, hb34, hb33, hb27, hb26, hb20, hb19, hb13, hb12, hb9, Qz, ne_eq] at hc41
  refine Zs (Zr ?_)
  refine Xa ?_
  refine Ze (Zt (w_ret (t_ret ?_)))
  refine ret1 rfl rfl (fun w' hm => ⟨?_, hm.base (by simp)⟩)
  rw [decide_eq_false (fun h : rightQ p => by obtain ⟨⟨q1, q2, q3, q4, q5, q6⟩, _⟩ := h; omega)]
 simp only [hb41, hb40, hb34, hb33, hb27, hb26, hb20, hb19, hb13, hb12, hb9, Qz, ne_eq] at hc41
 have e1 : p.st.length = p.lv.length := by omega
 refine w_skip (Zt (Zs (Zs (Zr ?_))))
 refine Xa ?_
 refine Ze (Zt (w_block ?_))
 refine w_loop (σ := Nat) (fun k => 1 ≤ k ∧ k ≤ p.lv.length ∧ ∀ j, j < k → 1 ≤ j → lvAt p j) (fun k => [(1, .pointer (some ⟨p1, 0, none⟩)), (3, Value.int .i64 (p.lv.length : Nat)), (4, Value.int .i64 (k : Nat))]) (fun k => [(p1, Obj.cells #[Value.int .i64 p.first, Value.int .i64 p.days, Value.slice A1 p.lv.length c1, Value.slice A2 p.st.length c2] 26)]) (fun k => [(w, fun _ => True)]) (fun k => p.lv.length - k) (1) (⟨by decide, by omega, fun j h1 h2 => by omega⟩) (l_start Zu (fun _ h => h)) ?_
 rintro k ⟨hk1, hk, hall⟩
 refine Zs (Zs (Zr ?_))
 refine Xm ?_
 refine Xm ?_
 refine Xb rfl (v_lss rfl rfl) fun b44 hb44 => ?_
 refine Ze (Zt ?_)
 refine w_cond rfl (fun hc44 => ?_) (fun hc44 => ?_)
 ·simp only [hb44, Qz, ne_eq] at hc44
  have hkl : k < p.lv.length := by omega
  refine w_skip (Zt (Zs (w_block (Zs ?_))))
  refine rg_draw 35 [(true, 0), (true, 1), (true, 2), (true, 3), (true, 4), (true, 5), (true, 6), (true, 7), (true, 8), (true, 9), (true, 10), (true, 11), (true, 12), (true, 13), (true, 14), (true, 15), (true, 16), (true, 17), (true, 18), (true, 19), (true, 20), (true, 21), (true, 22), (true, 23), (true, 24), (true, 25), (true, 26), (true, 27), (true, 28), (true, 29), (true, 30), (true, 31), (true, 32), (true, 33), (true, 34)] Zk Zk ?_
  refine Xv rfl (v_fieldAddr (off' := 2) u26 rfl sz22 (by decide) rfl rfl) ?_
  refine Xv rfl (Vl u22 rfl) ?_
  refine Xm ?_
  refine Xv rfl (v_indexAddr u22 sz3 (congrArg (fun A => some (Value.slice A p.lv.length c1)) (hL0 (by omega)).1) rfl Zo rfl) ?_
  refine Xv rfl (v_load u3 rfl rfl (at_ro (.head _) trivial (by rw [Nat.mul_one]; exact (hLk (k) (by omega)).1))) ?_
  refine Xb rfl (v_lss rfl rfl) fun b52 hb52 => ?_
  refine Xm ?_
  refine Xi rfl rfl rfl (fun hg0 => by subst hg0; (try simp only [Qy]); exact v_fieldAddr (off' := 2) u26 rfl sz22 (by decide) rfl rfl) ?_
  refine Xi rfl rfl rfl (fun hg0 => by subst hg0; (try simp only [Qy]); exact Vl u22 rfl) ?_
  refine Xg ?_
  refine Xi rfl rfl rfl (fun hg0 => by subst hg0; (try simp only [Qy]); exact v_indexAddr u22 sz3 (congrArg (fun A => some (Value.slice A p.lv.length c1)) (hL0 (by omega)).1) rfl Zo rfl) ?_
  refine Xi rfl rfl rfl (fun hg0 => by subst hg0; (try simp only [Qy]); exact v_load u3 rfl rfl (at_ro (.head _) trivial (by rw [Nat.mul_one]; exact (hLk (k) (by omega)).1))) ?_
  refine Xj rfl rfl rfl (fun hg0 => by subst hg0; (try simp only [Qy]); exact v_gtr rfl rfl) fun b59 hb59 => ?_
  refine Xb rfl (v_or rfl rfl) fun b60 hb60 => ?_
  refine Xm ?_
  refine Xi rfl rfl rfl (fun hg0 => by subst hg0; (try simp only [Qy]); exact v_fieldAddr (off' := 3) u26 rfl sz22 (by decide) rfl rfl) ?_
  refine Xi rfl rfl rfl (fun hg0 => by subst hg0; (try simp only [Qy]); exact Vl u22 rfl) ?_
  refine Xg ?_
  refine Xi rfl rfl rfl (fun hg0 => by subst hg0; (try simp only [Qy]); exact v_indexAddr u22 sz3 (congrArg (fun A => some (Value.slice A p.st.length c2)) (hS0 (by omega)).1) rfl Zo rfl) ?_
  refine Xi rfl rfl rfl (fun hg0 => by subst hg0; (try simp only [Qy]); exact v_load u3 rfl rfl (at_ro (.head _) trivial (by rw [Nat.mul_one]; exact (hSk (k) (by omega)).1))) ?_
  refine Xj rfl rfl rfl (fun hg0 => by subst hg0; (try simp only [Qy]); exact v_lss rfl rfl) fun b67 hb67 => ?_
  refine Xb rfl (v_or rfl rfl) fun b68 hb68 => ?_
  refine Xm ?_
  refine Xi rfl rfl rfl (fun hg0 => by subst hg0; (try simp only [Qy]); exact v_fieldAddr (off' := 3) u26 rfl sz22 (by decide) rfl rfl) ?_
  refine Xi rfl rfl rfl (fun hg0 => by subst hg0; (try simp only [Qy]); exact Vl u22 rfl) ?_
  refine Xg ?_
  refine Xi rfl rfl rfl (fun hg0 => by subst hg0; (try simp only [Qy]); exact v_indexAddr u22 sz3 (congrArg (fun A => some (Value.slice A p.st.length c2)) (hS0 (by omega)).1) rfl Zo rfl) ?_
  refine Xi rfl rfl rfl (fun hg0 => by subst hg0; (try simp only [Qy]); exact v_load u3 rfl rfl (at_ro (.head _) trivial (by rw [Nat.mul_one]; exact (hSk (k) (by omega)).1))) ?_
  refine Xi rfl rfl rfl (fun hg0 => by subst hg0; (try simp only [Qy]); exact v_fieldAddr (off' := 2) u26 rfl sz22 (by decide) rfl rfl) ?_
  refine Xi rfl rfl rfl (fun hg0 => by subst hg0; (try simp only [Qy]); exact Vl u22 rfl) ?_
  refine Xg ?_
  refine Xi rfl rfl rfl (fun hg0 => by subst hg0; (try simp only [Qy]); exact v_indexAddr u22 sz3 (congrArg (fun A => some (Value.slice A p.lv.length c1)) (hL0 (by omega)).1) rfl Zo rfl) ?_
  refine Xi rfl rfl rfl (fun hg0 => by subst hg0; (try simp only [Qy]); exact v_load u3 rfl rfl (at_ro (.head _) trivial (by rw [Nat.mul_one]; exact (hLk (k) (by omega)).1))) ?_
  refine Xj rfl rfl rfl (fun hg0 => by subst hg0; (try simp only [Qy]); exact v_gtr rfl rfl) fun b80 hb80 => ?_
  refine Xb rfl (v_or rfl rfl) fun b81 hb81 => ?_
  refine Ze (Zt ?_)
  refine w_cond rfl (fun hc81 => ?_) (fun hc81 => ?_)
  ·simp only [hb81, hb80, hb68, hb67, hb60, hb59, hb52, Qz, ne_eq] at hc81
   refine Zs (Zr ?_)
   refine Xa ?_
   refine Ze (Zt (w_ret (b_ret (t_ret (t_ret (b_ret (t_ret ?_)))))))
   refine ret1 rfl rfl (fun w' hm => ⟨?_, hm.base (by simp)⟩)
   rw [decide_eq_false (fun h : rightQ p => by have := h.at hk1 hkl; omega)]
  simp only [hb81, hb80, hb68, hb67, hb60, hb59, hb52, Qz, ne_eq] at hc81
  refine w_skip (b_norm (Zt (Zr ?_)))
  refine Xm ?_
  refine Xv rfl (v_addi rfl rfl rfl Zo) ?_
  refine Xa ?_
  refine Ze ?_
  exact l_norm (k + 1) ⟨by omega, by omega, fun j h1 h2 => by
   rcases Nat.lt_succ_iff_lt_or_eq.1 h1 with h3 | rfl
   ·exact hall j h3 h2
   unfold lvAt; omega⟩ (by omega) Zu (fun _ h => h)
 simp only [hb44, Qz, ne_eq] at hc44
 have ek : k = p.lv.length := by omega
 subst ek
 refine w_exit ?_
 refine t_exit ?_
 refine t_exit ?_
 refine b_hit ?_
 refine Zt (Zs (Zr ?_))
 refine Xv rfl (v_fieldAddr (off' := 1) u26 rfl sz3 (by decide) rfl rfl) ?_
 refine Xv rfl (Vl u3 rfl) ?_
 refine Xb rfl (v_geq rfl rfl) fun b84 hb84 => ?_
 refine Xm ?_
 refine Xi rfl rfl rfl (fun hg0 => by subst hg0; (try simp only [Qy]); exact v_fieldAddr (off' := 1) u26 rfl sz3 (by decide) rfl rfl) ?_
 refine Xi rfl rfl rfl (fun hg0 => by subst hg0; (try simp only [Qy]); exact Vl u3 rfl) ?_
 refine Xj rfl rfl rfl (fun hg0 => by subst hg0; (try simp only [Qy]); exact v_leq rfl rfl) fun b88 hb88 => ?_
 refine Xb rfl (v_and rfl rfl) fun b89 hb89 => ?_
 refine Xm ?_
 refine Xi rfl rfl rfl (fun hg0 => by subst hg0; (try simp only [Qy]); exact v_fieldAddr (off' := 0) u26 rfl sz3 (by decide) rfl rfl) ?_
 refine Xi rfl rfl rfl (fun hg0 => by subst hg0; (try simp only [Qy]); exact Vl u3 rfl) ?_
 refine x_call_ifb [] rfl rfl rfl rfl rfl Tryz.func40 Zk (fun hg => by obtain ⟨hg0, _⟩ := hg; subst hg0; (try simp only [Qy]); refine ⟨_, rfl, ?_⟩; exact fun w1 hw1 => c_isDay _ w1 hp1 (hL.later (hw1.base (by simp)))) fun b93 hb93 => ?_
 refine Xb rfl (v_and rfl rfl) fun b94 hb94 => ?_
 refine Xa ?_
 refine Ze (Zt (w_ret ?_))
 refine ret1 rfl rfl (fun w' hm => ⟨?_, hm.base (by simp)⟩)
 have e : b94 = decide (rightQ p) := by
  rw [Bool.eq_iff_iff, decide_eq_true_iff, hb94, hb93, hb89, hb88, hb84]
  simp only [Bool.and_eq_true, decide_eq_true_eq]
  exact ⟨fun ⟨⟨a, b⟩, c⟩ => ⟨⟨by omega, by omega, by omega, by omega, by omega, by omega⟩, fun j a b => hall j a b, ⟨a, b⟩, c⟩, fun ⟨_, _, ⟨a, b⟩, c⟩ => ⟨⟨a, b⟩, c⟩⟩
 rw [e]
theorem c_base {D : Nat → Prop} {v1 v2 : Value} (p : Pat) (w : World) (hp : patRd D w p v1 v2) (hq : rightQ p) :
  Calls Tryz.prog 71 #[.agg #[.int .i64 p.first, .int .i64 p.days, v1, v2]] w fun e w' => e = .returned (.int .i64 (baseP p)) ∧ Later w w' := by
 obtain ⟨hp1, hp2, h1, h2⟩ := id hp
 obtain ⟨A1, c1, rfl, hlc1, hmx1, hB1⟩ := id h1
 obtain ⟨A2, c2, rfl, hlc2, hmx2, hB2⟩ := id h2
 obtain ⟨bL, oL, hL0, hLk⟩ := rd_blk h1
 obtain ⟨bS, oS, hS0, hSk⟩ := rd_blk h2
 refine enter (vs := [.agg #[.int .i64 p.first, .int .i64 p.days, .slice A1 p.lv.length c1, .slice A2 p.st.length c2]]) Tryz.func71 rfl Tryz.ntmps71 rfl ?_
 refine Zs (Zr ?_)
 refine x_box rfl rfl rfl rfl ?_
 intro p1
 refine Xa ?_
 refine Ze (Zt (Zs (Zr ?_)))
 refine Xa ?_
 refine Ze (Zt (Zs (Zs (Zr ?_))))
 refine Xa ?_
 refine Ze (Zt (w_block ?_))
 refine w_loop (σ := Nat) (fun k => k + 1 ≤ p.lv.length) (fun k => [(1, .pointer (some ⟨p1, 0, none⟩)), (3, Value.int .i64 (baseTo p k)), (4, Value.int .i64 ((k + 1 : Nat) : Int))]) (fun k => [(p1, Obj.cells #[Value.int .i64 p.first, Value.int .i64 p.days, Value.slice A1 p.lv.length c1, Value.slice A2 p.st.length c2] 26)]) (fun k => [(w, fun _ => True)]) (fun k => p.lv.length - k) (0) (hq.1.1) (l_start Zu (fun _ h => h)) ?_
 rintro k hk
 have hl4 := hq.1.2.1
 have hls := hq.1.2.2.1
 obtain ⟨r1, r2⟩ := baseTo_rng hq k (by omega)
 have r3 := pow_le3 (k := k) (by omega)
 refine Zs (Zs (Zr ?_))
 refine Xm ?_
 refine Xv rfl (v_fieldAddr (off' := 2) u26 rfl sz22 (by decide) rfl rfl) ?_
 refine Xv rfl (Vl u22 rfl) ?_
 refine Xv rfl (v_len_slice u22 rfl) ?_
 refine Xb rfl (v_lss rfl rfl) fun b9 hb9 => ?_
 refine Ze (Zt ?_)
 refine w_cond rfl (fun hc9 => ?_) (fun hc9 => ?_)
 ·simp only [hb9, Qz, ne_eq] at hc9
  have hkl : k + 1 < p.lv.length := by omega
  obtain ⟨a1, a2, a3, a4⟩ := hq.at (j := k + 1) (by omega) hkl
  have m1 : 0 ≤ baseTo p k * p.lv.getD (k + 1) 0 := Int.mul_nonneg r1 (by omega)
  have m2 : baseTo p k * p.lv.getD (k + 1) 0 ≤ 1000000000 * 1000 := Int.mul_le_mul (by omega) a2 (by omega) (by decide)
  refine w_skip (Zt (Zs (w_block ?_)))
  refine rg_draw 15 [(true, 0), (true, 1), (true, 2), (true, 3), (true, 4), (true, 5), (true, 6), (true, 7), (true, 8), (true, 9), (true, 10), (true, 11), (true, 12), (true, 13), (true, 14)] Zk Zk ?_
  refine Xm ?_
  refine Xv rfl (v_fieldAddr (off' := 2) u26 rfl sz22 (by decide) rfl rfl) ?_
  refine Xv rfl (Vl u22 rfl) ?_
  refine Xm ?_
  refine Xv rfl (v_indexAddr u22 sz3 (congrArg (fun A => some (Value.slice A p.lv.length c1)) (hL0 (by omega)).1) rfl Zo rfl) ?_
  refine Xv rfl (v_load u3 rfl rfl (at_ro (.head _) trivial (by rw [Nat.mul_one]; exact (hLk (k + 1) (by omega)).1))) ?_
  refine Xv rfl (v_muli rfl rfl rfl Zo) ?_
  refine Xv rfl (v_fieldAddr (off' := 3) u26 rfl sz22 (by decide) rfl rfl) ?_
  refine Xv rfl (Vl u22 rfl) ?_
  refine Xm ?_
  refine Xv rfl (v_indexAddr u22 sz3 (congrArg (fun A => some (Value.slice A p.st.length c2)) (hS0 (by omega)).1) rfl Zo rfl) ?_
  refine Xv rfl (v_load u3 rfl rfl (at_ro (.head _) trivial (by rw [Nat.mul_one]; exact (hSk (k + 1) (by omega)).1))) ?_
  refine Xv rfl (v_addi rfl rfl rfl Zo) ?_
  refine Xv rfl (v_subi rfl rfl rfl Zo) ?_
  refine Xa ?_
  refine Ze (b_norm (Zt (Zr ?_)))
  refine Xm ?_
  refine Xv rfl (v_addi rfl rfl rfl Zo) ?_
  refine Xa ?_
  refine Ze ?_
  exact l_norm (k + 1) (by omega) (by omega) Zu (fun _ h => h)
 simp only [hb9, Qz, ne_eq] at hc9
 have ek : k = p.lv.length - 1 := by omega
 refine w_exit ?_
 refine t_exit ?_
 refine t_exit ?_
 refine b_hit ?_
 refine Zt (Zs (Zr ?_))
 refine Xm ?_
 refine Xa ?_
 refine Ze (Zt (w_ret ?_))
 refine ret1 rfl rfl (fun w' hm => ⟨?_, hm.base (by simp)⟩)
 rw [ek, base_all hq]
open Go.RowKit Go.PK
theorem c_issue {D : Nat → Prop} {v1 v2 : Value} (p : Pat) (k : Int) (w : World) (hp : patRd D w p v1 v2) (hq : rightQ p) (h0 : 0 ≤ k) (hk : k ≤ 2000000) :
  Calls Tryz.prog 50 #[.agg #[.int .i64 p.first, .int .i64 p.days, v1, v2], .int .i64 k] w fun e w' => ∃ v, e = .returned v ∧ Later w w' ∧ ∃ A c, v = .agg #[.slice A p.lv.length c, .int .i64 (p.first + k * p.days)] ∧ sliceRd tyI (fun b => w.heap.size ≤ b) w' (.slice A p.lv.length c) (numsP p k) := by
 obtain ⟨hp1, hp2, h1, h2⟩ := id hp
 obtain ⟨A1, c1, rfl, hlc1, hmx1, hB1⟩ := id h1
 obtain ⟨A2, c2, rfl, hlc2, hmx2, hB2⟩ := id h2
 obtain ⟨bL, oL, hL0, hLk⟩ := rd_blk h1
 obtain ⟨bS, oS, hS0, hSk⟩ := rd_blk h2
 have q1 := hq.1.1
 have q2 := hq.1.2.1
 have q3 := hq.1.2.2.1
 have hbr := baseP_rng hq
 refine enter (vs := [.agg #[.int .i64 p.first, .int .i64 p.days, .slice A1 p.lv.length c1, .slice A2 p.st.length c2], .int .i64 k]) Tryz.func50 rfl Tryz.ntmps50 rfl ?_
 refine Zs (Zr ?_)
 refine x_box rfl rfl rfl rfl ?_
 intro p2
 refine x_alloc rfl rfl rfl zr48 ?_
 intro p4
 refine Ze (Zt (Zs (Zr ?_)))
 refine Xv rfl (v_fieldAddr (off' := 2) u26 rfl sz22 (by decide) rfl rfl) ?_
 refine Xv rfl (Vl u22 rfl) ?_
 refine Xv rfl (v_len_slice u22 rfl) ?_
 refine x_makeSlice (c := p.lv.length) rfl rfl rfl rfl rfl u22 ap3 rfl (by omega) Zx ?_
 intro p11
 refine Xa ?_
 refine Ze (Zt (Zs (Zr ?_)))
 refine Xv rfl (v_load_blk u26 rfl rfl (by first | exact .head _ | exact .tail _ (.head _) | exact .tail _ (.tail _ (.head _)) | (repeat (first | exact List.Mem.head _ | apply List.Mem.tail | apply List.mem_append_right))) (by exact sz26)) ?_
 refine x_callv rfl rfl rfl Tryz.func71 Zk rfl (fun w1 hw1 => c_base p w1 (hp.keep (Kept.later (hw1.base (by simp)))) hq) ?_
 refine Xm ?_
 have hst := numL_start hq (baseP p + k)
 refine Xv (v := Value.int .i64 (restL p (baseP p + k) (p.lv.length - 1))) rfl (by rw [hst.2]; exact v_addi rfl rfl rfl (by omega)) ?_
 refine Xa ?_
 refine Ze (Zt (Zs (Zs (Zr ?_))))
 refine Xv rfl (v_fieldAddr (off' := 2) u26 rfl sz22 (by decide) rfl rfl) ?_
 refine Xv rfl (Vl u22 rfl) ?_
 refine Xv rfl (v_len_slice u22 rfl) ?_
 refine Xv rfl (v_subi (c := ((p.lv.length - 1 : Nat) : Int)) rfl rfl (by omega) (by omega)) ?_
 refine Xa ?_
 refine Ze (Zt (w_block ?_))
 rw [show (List.replicate p.lv.length (Value.int .i64 0)) = (numL p (baseP p + k) (p.lv.length - 1)).map (Value.int .i64) from by rw [hst.1, List.map_replicate]]
 refine w_loop (σ := Nat) (fun i => i < p.lv.length) (fun i => [(1, Value.int .i64 k), (2, .pointer (some ⟨p2, 0, none⟩)), (4, .pointer (some ⟨p4, 0, none⟩)), (5, Value.slice (some ⟨p11, 0, none⟩) p.lv.length p.lv.length), (6, Value.int .i64 (restL p (baseP p + k) i)), (7, Value.int .i64 (i : Nat))]) (fun i => [(p11, Obj.cells ((numL p (baseP p + k) i).map (Value.int .i64)).toArray 3), (p4, Obj.cells #[Value.slice none 0 0, Value.int .i64 0] 48), (p2, Obj.cells #[Value.int .i64 p.first, Value.int .i64 p.days, Value.slice A1 p.lv.length c1, Value.slice A2 p.st.length c2] 26)]) (fun i => [(w, fun _ => True)]) (fun i => i) (p.lv.length - 1) (by omega) (l_start Zu (fun _ h => h)) ?_
 rintro i hi
 obtain ⟨r1, r2⟩ := restL_rng hq (show 0 ≤ (baseP p + k) by omega) i
 refine Zs (Zs (Zr ?_))
 refine Xm ?_
 refine Xb rfl (v_gtr rfl rfl) fun b21 hb21 => ?_
 refine Ze (Zt ?_)
 refine w_cond rfl (fun hc21 => ?_) (fun hc21 => ?_)
 ·simp only [hb21, Qz, ne_eq] at hc21
  obtain ⟨j, rfl⟩ : ∃ j, i = j + 1 := ⟨i - 1, by omega⟩
  obtain ⟨a1, a2, a3, a4⟩ := hq.at (j := j + 1) (by omega) hi
  have em := Int.emod_nonneg (restL p (baseP p + k) (j + 1)) (show p.lv.getD (j + 1) 0 ≠ 0 by omega)
  have em2 := Int.emod_lt_of_pos (restL p (baseP p + k) (j + 1)) (show 0 < p.lv.getD (j + 1) 0 by omega)
  have hst := restL_step (r := (baseP p + k)) hi
  have hr0 := restL_rng hq (show 0 ≤ (baseP p + k) by omega) j
  have hnl := numL_len (p := p) (r := (baseP p + k)) hi
  refine w_skip (Zt (Zs (w_block (Zs (Zr ?_)))))
  refine Xm ?_
  refine Xm ?_
  refine Xm ?_
  refine Xv rfl (v_fieldAddr (off' := 2) u26 rfl sz22 (by decide) rfl rfl) ?_
  refine Xv rfl (Vl u22 rfl) ?_
  refine Xm ?_
  refine Xv rfl (v_indexAddr u22 sz3 (congrArg (fun A => some (Value.slice A p.lv.length c1)) (hL0 (by omega)).1) rfl Zo rfl) ?_
  refine Xv rfl (v_load u3 rfl rfl (at_ro (.head _) trivial (by rw [Nat.mul_one]; exact (hLk (j + 1) (by omega)).1))) ?_
  refine Xv (v := Value.int .i64 (restL p (baseP p + k) (j + 1) % p.lv.getD (j + 1) 0)) rfl (by rw [← Int.tmod_eq_emod_of_nonneg r1]; exact v_rem rfl rfl (by omega)) ?_
  refine Xv rfl (v_addi rfl rfl rfl Zo) ?_
  refine Xv rfl (v_indexAddr u22 sz3 rfl rfl Zo rfl) ?_
  refine x_store [] rfl rfl rfl rfl sz3 rfl (by rw [List.length_map, hnl]; omega) ?_
  refine Ze (Zt (Zr ?_))
  refine Xm ?_
  refine Xv rfl (v_fieldAddr (off' := 2) u26 rfl sz22 (by decide) rfl rfl) ?_
  refine Xv rfl (Vl u22 rfl) ?_
  refine Xm ?_
  refine Xv rfl (v_indexAddr u22 sz3 (congrArg (fun A => some (Value.slice A p.lv.length c1)) (hL0 (by omega)).1) rfl Zo rfl) ?_
  refine Xv rfl (v_load u3 rfl rfl (at_ro (.head _) trivial (by rw [Nat.mul_one]; exact (hLk (j + 1) (by omega)).1))) ?_
  rw [put_int (by rw [hnl]; exact hi), numL_step hi]
  refine Xv rfl (v_quoi (c := restL p (baseP p + k) j) rfl rfl (by omega) (by rw [Int.tdiv_eq_ediv_of_nonneg r1, hst]) (by omega)) ?_
  refine Xa ?_
  refine Ze (b_norm (Zt (Zr ?_)))
  refine Xm ?_
  refine Xv rfl (v_subi (c := (j : Int)) rfl rfl (by omega) (by omega)) ?_
  refine Xa ?_
  refine Ze ?_
  exact l_norm j (show j < p.lv.length by omega) (by omega) Zu (fun _ h => h)
 simp only [hb21, Qz, ne_eq] at hc21
 obtain rfl : i = 0 := by omega
 have hnl := numL_len (p := p) (r := (baseP p + k)) hi
 have h5 := hq.1.2.2.2.2.1
 have h6 := hq.1.2.2.2.2.2
 have hdy := day_rng hq h0 hk
 have hdd := hq.2.2.2
 unfold okDay at hdd
 refine w_exit ?_
 refine t_exit ?_
 refine t_exit ?_
 refine b_hit ?_
 refine Zt (Zs (Zr ?_))
 refine Xm ?_
 refine Xv rfl (v_fieldAddr (off' := 3) u26 rfl sz22 (by decide) rfl rfl) ?_
 refine Xv rfl (Vl u22 rfl) ?_
 refine Xv rfl (v_indexAddr (j := 0) u22 sz3 (congrArg (fun A => some (Value.slice A p.st.length c2)) (hS0 (by omega)).1) rfl Zo rfl) ?_
 refine Xv rfl (v_load u3 rfl rfl (at_ro (.head _) trivial (by rw [Nat.mul_one]; exact (hSk (0) (by omega)).1))) ?_
 refine Xm ?_
 refine Xv rfl (v_addi rfl rfl rfl Zo) ?_
 refine Xv rfl (v_indexAddr (j := 0) u22 sz3 rfl rfl Zo rfl) ?_
 refine x_store [] rfl rfl rfl rfl sz3 rfl (by rw [List.length_map, hnl]; omega) ?_
 refine Ze (Zt (Zs (Zr ?_)))
 have e0 := put_int (cs := numL p (baseP p + k) 0) (k := 0) (x := p.st.getD 0 0 + restL p (baseP p + k) 0) (by rw [hnl]; exact hi)
 rw [e0, numL_end hq k]
 refine Xm ?_
 refine Xv rfl (v_fieldAddr (off' := 0) u26 rfl sz3 (by decide) rfl rfl) ?_
 refine Xv rfl (Vl u3 rfl) ?_
 refine Xm ?_
 refine Xv rfl (v_fieldAddr (off' := 1) u26 rfl sz3 (by decide) rfl rfl) ?_
 refine Xv rfl (Vl u3 rfl) ?_
 refine Xv rfl (v_muli rfl rfl rfl Zo) ?_
 refine Xv rfl (v_addi rfl rfl rfl Zo) ?_
 refine Xv rfl (v_buildL (places := [(0, 1), (1, 1)]) u48 zr48 Zk rfl rfl) ?_
 refine x_store0 [(p11, _)] rfl rfl rfl rfl sz48 rfl rfl ?_
 refine Ze (Zt (w_ret ?_))
 refine retc rfl rfl (.tail _ (.head _)) u48 rfl sz48 (fun w' hm => ⟨_, rfl, hm.base (by simp), some ⟨p11, 0, none⟩, _, rfl, ?_⟩)
 have hr : rowOK 1 (some (p11, (numsP p k).map (Value.int .i64), p.lv.length)) p.lv.length ((numsP p k).map (Value.int .i64)) := rowOK_lit (by simp [numsP_len hq]) Zx
 exact rowI_rd (e := 3) hr (numsP_len hq k).symm (nums_in64 hq h0 hk) hm (fun p hp => by rw [show p = _ from List.mem_singleton.1 hp]; exact .head _) (fun p hp => by rw [show p = _ from List.mem_singleton.1 hp]; exact hm.newer (by simp) (.head _))
open Go.RowKit Go.PK
theorem ap48 : (Tryz.prog.info? 48).map (fun j => (j.zero, j.size, j.bytes)) = some (some (.agg #[.slice none 0 0, .int .i64 0]), 2, 32) := by kernel_rfl
noncomputable def predQ (p : Pat) (m : Int) : List Iss := if rightQ p then predP p (min (max m 0) 10000).toNat else []
theorem c_Predict {D : Nat → Prop} {v1 v2 : Value} (p : Pat) (m : Int) (w : World) (hp : patRd D w p v1 v2) (hm : in64 m) (hL : LD w) :
  Calls Tryz.prog 30 #[.agg #[.int .i64 p.first, .int .i64 p.days, v1, v2], .int .i64 m] w fun e w' => ∃ v, e = .returned v ∧ Later w w' ∧ sliceRd tyIss (fun b => w.heap.size ≤ b) w' v (predQ p m) := by
 obtain ⟨hp1, hp2, h1, h2⟩ := id hp
 obtain ⟨A1, c1, rfl, hlc1, hmx1, hB1⟩ := id h1
 obtain ⟨A2, c2, rfl, hlc2, hmx2, hB2⟩ := id h2
 obtain ⟨bL, oL, hL0, hLk⟩ := rd_blk h1
 obtain ⟨bS, oS, hS0, hSk⟩ := rd_blk h2
 refine enter (vs := [.agg #[.int .i64 p.first, .int .i64 p.days, .slice A1 p.lv.length c1, .slice A2 p.st.length c2], .int .i64 m]) Tryz.func30 rfl Tryz.ntmps30 rfl ?_
 refine Zs (Zr ?_)
 refine x_box rfl rfl rfl rfl ?_
 intro p2
 refine Xa ?_
 refine Ze (Zt (Zs (Zr ?_)))
 refine Xa ?_
 refine Ze (Zt (Zs (Zs (Zr ?_))))
 refine Xv rfl (v_load_blk (e := 26) (fz := (0, 0)) u26 rfl rfl (.head _) (by exact sz26)) ?_
 refine x_callb rfl rfl rfl Tryz.func33 Zk rfl (fun w1 hw1 => c_Right p w1 (hp.keep (Kept.later (hw1.base (by simp)))) (hL.later (hw1.base (by simp)))) fun b8 hb8 => ?_
 refine Ze (Zt ?_)
 refine w_cond rfl (fun hc8 => ?_) (fun hc8 => ?_)
 ·have hq : rightQ p := of_decide_eq_true (hb8.symm.trans hc8)
  refine Zs (Zr ?_)
  refine Xm ?_
  refine Xv rfl (v_max rfl rfl) ?_
  refine Xv rfl (v_min rfl rfl) ?_
  refine Xm ?_
  refine Ze (Zt (w_block ?_))
  refine w_fix (rowO 48 none ++ [(p2, Obj.cells #[Value.int .i64 p.first, Value.int .i64 p.days, Value.slice A1 p.lv.length c1, Value.slice A2 p.st.length c2] 26)]) (List.Sublist.refl _) (fun w0 hm0 => ?_)
  refine w_loop (σ := Nat × RowS × World) (fun x => x.1 ≤ (min (max m 0) 10000).toNat ∧ RowT tyIss (newD w (rowO 48 x.2.1 ++ [(p2, Obj.cells #[Value.int .i64 p.first, Value.int .i64 p.days, Value.slice A1 p.lv.length c1, Value.slice A2 p.st.length c2] 26)])) x.2.2 x.2.1 (predP p x.1)) (fun x => [(2, .pointer (some ⟨p2, 0, none⟩)), (5, rowV x.2.1 x.1), (11, Value.int .i64 (min (max m 0) 10000)), (12, Value.int .i64 (x.1 : Nat))]) (fun x => rowO 48 x.2.1 ++ [(p2, Obj.cells #[Value.int .i64 p.first, Value.int .i64 p.days, Value.slice A1 p.lv.length c1, Value.slice A2 p.st.length c2] 26)]) (fun x => (x.2.2, notOwn (rowO 48 x.2.1 ++ [(p2, Obj.cells #[Value.int .i64 p.first, Value.int .i64 p.days, Value.slice A1 p.lv.length c1, Value.slice A2 p.st.length c2] 26)])) :: [(w, fun _ => True)]) (fun x => (min (max m 0) 10000).toNat - x.1) ((0, none, w0)) (⟨Nat.zero_le _, RowT.nil⟩) (l_start Zu (fun _ h => h)) ?_
  rintro ⟨k, R, ws⟩ ⟨hk, hT⟩
  refine w_state ([(2, .pointer (some ⟨p2, 0, none⟩)), (5, rowV R k), (11, Value.int .i64 (min (max m 0) 10000)), (12, Value.int .i64 (k : Nat))]) (rowO 48 R ++ [(p2, Obj.cells #[Value.int .i64 p.first, Value.int .i64 p.days, Value.slice A1 p.lv.length c1, Value.slice A2 p.st.length c2] 26)]) ((ws, notOwn (rowO 48 R ++ [(p2, Obj.cells #[Value.int .i64 p.first, Value.int .i64 p.days, Value.slice A1 p.lv.length c1, Value.slice A2 p.st.length c2] 26)])) :: [(w, fun _ => True)]) ?_
  dsimp only at hk hT
  have hln := predP_len p k
  refine Zs (Zr ?_)
  refine Xb rfl (v_lss rfl rfl) fun b13 hb13 => ?_
  refine Ze (Zt (Zs ?_))
  refine w_cond rfl (fun hc13 => ?_) (fun hc13 => ?_)
  ·simp only [hb13, Qz, ne_eq] at hc13
   have hkl : k < (min (max m 0) 10000).toNat := by omega
   refine w_skip (Zt (Zs (w_block (Zs (Zr ?_)))))
   refine Xm ?_
   refine Xa ?_
   refine Ze (Zt (Zr ?_))
   refine Xm ?_
   refine Xv rfl (v_load_blk (e := 26) (fz := (0, 0)) (cs := #[Value.int .i64 p.first, Value.int .i64 p.days, Value.slice A1 p.lv.length c1, Value.slice A2 p.st.length c2]) u26 rfl rfl (List.mem_append_right _ (.head _)) (by exact sz26)) ?_
   refine Xm ?_
   refine x_call (R := fun v wa wb => ∃ A c, v = .agg #[.slice A p.lv.length c, .int .i64 (p.first + (k : Nat) * p.days)] ∧ sliceRd tyI (fun b => wa.heap.size ≤ b) wb (.slice A p.lv.length c) (numsP p (k : Nat))) rfl rfl rfl Tryz.func50 Zk rfl (fun w1 hw1 => c_issue p (k : Nat) w1 (hp.keep (Kept.later (hw1.base (by simp)))) hq (by omega) (by omega)) fun v18 wa wb hwa hwl hR => ?_
   obtain ⟨A8, c8, rfl, hR9⟩ := id hR
   obtain ⟨css, hcl, hrow, hrd⟩ := hT
   rw [hln] at hcl hrow
   have hdy := day_rng hq (show (0 : Int) ≤ (k : Nat) by omega) (show ((k : Nat) : Int) ≤ 2000000 by omega)
   have hdd := hq.2.2.2
   unfold okDay at hdd
   refine x_buildSliceL (cs := [Value.slice A8 p.lv.length c8, Value.int .i64 (p.first + (k : Nat) * p.days)]) rfl rfl rfl u40 sz48 zr48 rfl rfl rfl ?_
   intro p19
   refine x_append (e := 48) [(p19, Obj.cells [Value.slice A8 p.lv.length c8, Value.int .i64 (p.first + (k : Nat) * p.days)].toArray 48)] (l2 := [(p2, Obj.cells #[Value.int .i64 p.first, Value.int .i64 p.days, Value.slice A1 p.lv.length c1, Value.slice A2 p.st.length c2] 26)]) R (len := k) (xs := css.flatten) rfl rfl rfl rfl rfl hrow u40 ap48 rfl rfl (m := 1) (news := [Value.slice A8 p.lv.length c8, Value.int .i64 (p.first + (k : Nat) * p.days)]) (fun i hi => at_ownL (vs := [Value.slice A8 p.lv.length c8, Value.int .i64 (p.first + (k : Nat) * p.days)]) (.head _) (by rw [Nat.zero_add]; exact List.getElem?_eq_getElem hi)) rfl Zx (by omega) fun R' hR' => ?_
   refine Xa ?_
   refine Ze (b_norm (Zt (Zr ?_)))
   refine Xv rfl (v_addi rfl rfl rfl Zo) ?_
   refine Xm ?_
   refine Ze ?_
   refine s_fix (rowO 48 R' ++ [(p2, Obj.cells #[Value.int .i64 p.first, Value.int .i64 p.days, Value.slice A1 p.lv.length c1, Value.slice A2 p.st.length c2] 26)]) (List.sublist_cons_self _ _) (fun w0 hm0 => ?_)
   have hT' := snocN (T := tyIss) (D := newD w (rowO 48 R' ++ [(p2, Obj.cells #[Value.int .i64 p.first, Value.int .i64 p.days, Value.slice A1 p.lv.length c1, Value.slice A2 p.st.length c2] 26)])) (ws := w0) (x := issP p (k : Nat)) hln hcl (fun j h1 h2 => tyIss.keep (hrd j h1 h2) (Kept.frz hm0 (List.sublist_cons_self _ _) (by simp))) hR' ⟨_, rfl, hR9.keep (Kept.made2 (hm0.less (List.sublist_cons_self _ _) (fun _ h => h)) (.head _) (fun k hk p hp he => by have := hwa.lt hp; omega) (hwa.base (by simp)).size), by unfold in64; show -9223372036854775808 ≤ p.first + (k : Nat) * p.days ∧ p.first + (k : Nat) * p.days ≤ 9223372036854775807; omega⟩
   exact l_norm (x := (k, R, ws)) (μ := fun q : Nat × RowS × World => (min (max m 0) 10000).toNat - q.1) (k + 1, R', w0) ⟨by dsimp only; omega, by dsimp only; rw [predP_succ]; exact hT'⟩ (by simp only; omega) Zu (fun w1 h => h.less (List.Sublist.refl _) (fun q hq => by simp at hq ⊢; rcases hq with h | h; (· exact .inl h); simp [h]))
  simp only [hb13, Qz, ne_eq] at hc13
  have hkl : k = (min (max m 0) 10000).toNat := by omega
  refine w_exit ?_
  refine t_exit ?_
  refine t_exit ?_
  refine b_hit ?_
  refine Zt (Zs (Zr ?_))
  refine Xm ?_
  refine Xa ?_
  refine Ze (Zt (w_ret ?_))
  refine ret1 rfl rfl (fun w' hm => ⟨_, rfl, hm.base (by simp), ?_⟩)
  rw [predQ, if_pos hq]
  have hT2 := hT.keep (Kept.frz hm (List.Sublist.refl _) (.head _))
  rw [hkl] at hT2
  rw [hkl]
  exact hT2.rd (e := 48) hm (fun q hq => List.mem_append_left _ hq) (fun _ h => h.1) (fun q hq => hm.newer (by simp) (List.mem_append_left _ hq)) (predP_len _ _).symm
 have hq : ¬rightQ p := of_decide_eq_false (hb8.symm.trans hc8)
 refine w_skip (Zt (Zs (Zr ?_)))
 refine Xm ?_
 refine Xa ?_
 refine Ze (Zt (w_ret ?_))
 refine ret1 rfl rfl (fun w' hm => ⟨_, rfl, hm.base (by simp), ?_⟩)
 rw [predQ, if_neg hq]
 exact ⟨none, 0, rfl, Nat.le_refl _, Nat.zero_le _, fun h => absurd h (by decide)⟩
theorem c_Number {D : Nat → Prop} {v1 v2 v3 : Value} (p : Pat) (ns : List Int) (w : World) (hp : patRd D w p v1 v2) (hn : sliceRd tyI D w v3 ns) (hL : LD w) :
  Calls Tryz.prog 29 #[.agg #[.int .i64 p.first, .int .i64 p.days, v1, v2], v3] w fun e w' => e = .returned (.tuple #[.int .i64 ((numP p ns).getD 0), .bool (numP p ns).isSome]) ∧ Later w w' := by
 obtain ⟨hp1, hp2, h1, h2⟩ := id hp
 obtain ⟨A1, c1, rfl, hlc1, hmx1, hB1⟩ := id h1
 obtain ⟨A2, c2, rfl, hlc2, hmx2, hB2⟩ := id h2
 obtain ⟨bL, oL, hL0, hLk⟩ := rd_blk h1
 obtain ⟨bS, oS, hS0, hSk⟩ := rd_blk h2
 obtain ⟨A3, c3, rfl, hlc3, hmx3, hB3⟩ := id hn
 obtain ⟨bN, oN, hN0, hNk⟩ := rd_blk hn
 refine enter (vs := [.agg #[.int .i64 p.first, .int .i64 p.days, .slice A1 p.lv.length c1, .slice A2 p.st.length c2], .slice A3 ns.length c3]) Tryz.func29 rfl Tryz.ntmps29 rfl ?_
 refine Zs (Zr ?_)
 refine x_box rfl rfl rfl rfl ?_
 intro p2
 refine Xa ?_
 refine Xa ?_
 refine Ze (Zt (Zs (Zs ?_)))
 refine rg_draw 32 [(true, 0), (true, 1), (true, 2), (true, 3), (true, 4), (true, 5), (true, 6), (true, 7), (true, 8), (true, 9), (true, 10), (true, 11), (true, 12), (true, 13), (true, 14), (true, 15), (true, 16), (true, 17), (true, 18), (true, 19), (true, 20), (true, 21), (true, 22), (true, 23), (true, 24), (true, 25), (true, 26), (true, 27), (true, 28), (true, 29), (true, 30), (true, 31)] Zk Zk ?_
 refine Xv rfl (v_load_blk u26 rfl rfl (by first | exact .head _ | exact .tail _ (.head _) | exact .tail _ (.tail _ (.head _)) | (repeat (first | exact List.Mem.head _ | apply List.Mem.tail | apply List.mem_append_right))) (by exact sz26)) ?_
 refine x_callb rfl rfl rfl Tryz.func33 Zk rfl (fun w1 hw1 => c_Right p w1 (hp.keep (Kept.later (hw1.base (by simp)))) (hL.later (hw1.base (by simp)))) fun b9 hb9 => ?_
 refine Xb rfl (v_not rfl) fun b10 hb10 => ?_
 refine Xm ?_
 refine Xg ?_
 refine Xi rfl rfl rfl (fun hg0 => by subst hg0; (try simp only [Qy]); exact v_len_slice u22 rfl) ?_
 refine Xi rfl rfl rfl (fun hg0 => by subst hg0; (try simp only [Qy]); exact v_fieldAddr (off' := 2) u26 rfl sz22 (by decide) rfl rfl) ?_
 refine Xi rfl rfl rfl (fun hg0 => by subst hg0; (try simp only [Qy]); exact Vl u22 rfl) ?_
 refine Xi rfl rfl rfl (fun hg0 => by subst hg0; (try simp only [Qy]); exact v_len_slice u22 rfl) ?_
 refine Xj rfl rfl rfl (fun hg0 => by subst hg0; (try simp only [Qy]); exact v_neq rfl rfl) fun b17 hb17 => ?_
 refine Xb rfl (v_or rfl rfl) fun b18 hb18 => ?_
 refine Xm ?_
 refine Xg ?_
 refine Xi rfl rfl rfl (fun hg0 => by subst hg0; (try simp only [Qy]); have g9 := hb18.symm; simp only [hb17, hb10, hb9, Bool.or_eq_false_iff, decide_eq_false_iff_not, Bool.not_eq_false', Bool.not_eq_true', decide_eq_true_eq, ne_eq, Decidable.not_not, Bool.or_eq_true] at g9; obtain ⟨g9, gl⟩ := g9; have q1 := g9.1.1; have q3 := g9.1.2.2.1; exact v_indexAddr (j := 0) u22 sz3 (congrArg (fun A => some (Value.slice A ns.length c3)) (hN0 (by omega)).1) rfl Zo rfl) ?_
 refine Xi rfl rfl rfl (fun hg0 => by subst hg0; (try simp only [Qy]); have g9 := hb18.symm; simp only [hb17, hb10, hb9, Bool.or_eq_false_iff, decide_eq_false_iff_not, Bool.not_eq_false', Bool.not_eq_true', decide_eq_true_eq, ne_eq, Decidable.not_not, Bool.or_eq_true] at g9; obtain ⟨g9, gl⟩ := g9; have q1 := g9.1.1; have q3 := g9.1.2.2.1; exact v_load u3 rfl rfl (at_ro (.head _) trivial (by rw [Nat.mul_one]; exact (hNk (0) (by omega)).1))) ?_
 refine Xi rfl rfl rfl (fun hg0 => by subst hg0; (try simp only [Qy]); exact v_fieldAddr (off' := 3) u26 rfl sz22 (by decide) rfl rfl) ?_
 refine Xi rfl rfl rfl (fun hg0 => by subst hg0; (try simp only [Qy]); exact Vl u22 rfl) ?_
 refine Xi rfl rfl rfl (fun hg0 => by subst hg0; (try simp only [Qy]); have g9 := hb18.symm; simp only [hb17, hb10, hb9, Bool.or_eq_false_iff, decide_eq_false_iff_not, Bool.not_eq_false', Bool.not_eq_true', decide_eq_true_eq, ne_eq, Decidable.not_not, Bool.or_eq_true] at g9; obtain ⟨g9, gl⟩ := g9; have q1 := g9.1.1; have q3 := g9.1.2.2.1; exact v_indexAddr (j := 0) u22 sz3 (congrArg (fun A => some (Value.slice A p.st.length c2)) (hS0 (by omega)).1) rfl Zo rfl) ?_
 refine Xi rfl rfl rfl (fun hg0 => by subst hg0; (try simp only [Qy]); have g9 := hb18.symm; simp only [hb17, hb10, hb9, Bool.or_eq_false_iff, decide_eq_false_iff_not, Bool.not_eq_false', Bool.not_eq_true', decide_eq_true_eq, ne_eq, Decidable.not_not, Bool.or_eq_true] at g9; obtain ⟨g9, gl⟩ := g9; have q1 := g9.1.1; have q3 := g9.1.2.2.1; exact v_load u3 rfl rfl (at_ro (.head _) trivial (by rw [Nat.mul_one]; exact (hSk (0) (by omega)).1))) ?_
 refine Xj rfl rfl rfl (fun hg0 => by subst hg0; (try simp only [Qy]); exact v_lss rfl rfl) fun b27 hb27 => ?_
 refine Xb rfl (v_or rfl rfl) fun b28 hb28 => ?_
 refine Xm ?_
 refine Xg ?_
 refine Xi rfl rfl rfl (fun hg0 => by subst hg0; (try simp only [Qy]); have g9 := hb28.symm; simp only [hb27, hb18, hb17, hb10, hb9, Bool.or_eq_false_iff, decide_eq_false_iff_not, Bool.not_eq_false', Bool.not_eq_true', decide_eq_true_eq, ne_eq, Decidable.not_not, Bool.or_eq_true] at g9; replace g9 := g9.1; obtain ⟨g9, gl⟩ := g9; have q1 := g9.1.1; have q3 := g9.1.2.2.1; exact v_indexAddr (j := 0) u22 sz3 (congrArg (fun A => some (Value.slice A ns.length c3)) (hN0 (by omega)).1) rfl Zo rfl) ?_
 refine Xi rfl rfl rfl (fun hg0 => by subst hg0; (try simp only [Qy]); have g9 := hb28.symm; simp only [hb27, hb18, hb17, hb10, hb9, Bool.or_eq_false_iff, decide_eq_false_iff_not, Bool.not_eq_false', Bool.not_eq_true', decide_eq_true_eq, ne_eq, Decidable.not_not, Bool.or_eq_true] at g9; replace g9 := g9.1; obtain ⟨g9, gl⟩ := g9; have q1 := g9.1.1; have q3 := g9.1.2.2.1; exact v_load u3 rfl rfl (at_ro (.head _) trivial (by rw [Nat.mul_one]; exact (hNk (0) (by omega)).1))) ?_
 refine Xi rfl rfl rfl (fun hg0 => by subst hg0; (try simp only [Qy]); exact v_fieldAddr (off' := 3) u26 rfl sz22 (by decide) rfl rfl) ?_
 refine Xi rfl rfl rfl (fun hg0 => by subst hg0; (try simp only [Qy]); exact Vl u22 rfl) ?_
 refine Xi rfl rfl rfl (fun hg0 => by subst hg0; (try simp only [Qy]); have g9 := hb28.symm; simp only [hb27, hb18, hb17, hb10, hb9, Bool.or_eq_false_iff, decide_eq_false_iff_not, Bool.not_eq_false', Bool.not_eq_true', decide_eq_true_eq, ne_eq, Decidable.not_not, Bool.or_eq_true] at g9; replace g9 := g9.1; obtain ⟨g9, gl⟩ := g9; have q1 := g9.1.1; have q3 := g9.1.2.2.1; exact v_indexAddr (j := 0) u22 sz3 (congrArg (fun A => some (Value.slice A p.st.length c2)) (hS0 (by omega)).1) rfl Zo rfl) ?_
 refine Xi rfl rfl rfl (fun hg0 => by subst hg0; (try simp only [Qy]); have g9 := hb28.symm; simp only [hb27, hb18, hb17, hb10, hb9, Bool.or_eq_false_iff, decide_eq_false_iff_not, Bool.not_eq_false', Bool.not_eq_true', decide_eq_true_eq, ne_eq, Decidable.not_not, Bool.or_eq_true] at g9; replace g9 := g9.1; obtain ⟨g9, gl⟩ := g9; have q1 := g9.1.1; have q3 := g9.1.2.2.1; exact v_load u3 rfl rfl (at_ro (.head _) trivial (by rw [Nat.mul_one]; exact (hSk (0) (by omega)).1))) ?_
 refine Xi rfl rfl rfl (fun hg0 => by subst hg0; (try simp only [Qy]); have g9 := hb28.symm; simp only [hb27, hb18, hb17, hb10, hb9, Bool.or_eq_false_iff, decide_eq_false_iff_not, Bool.not_eq_false', Bool.not_eq_true', decide_eq_true_eq, ne_eq, Decidable.not_not, Bool.or_eq_true] at g9; replace g9 := g9.1; obtain ⟨g9, gl⟩ := g9; have q1 := g9.1.1; have q3 := g9.1.2.2.1; have q5 := g9.1.2.2.2.2; exact v_addi rfl rfl rfl Zo) ?_
 refine Xj rfl rfl rfl (fun hg0 => by subst hg0; (try simp only [Qy]); exact v_gtr rfl rfl) fun b38 hb38 => ?_
 refine Xb rfl (v_or rfl rfl) fun b39 hb39 => ?_
 refine Ze (Zt ?_)
 refine w_cond rfl (fun hc39 => ?_) (fun hc39 => ?_)
 ·skip
  refine Zs (Zr ?_)
  refine Xa ?_
  refine Xa ?_
  refine Ze (Zt (w_ret (t_ret ?_)))
  refine ret2 rfl rfl rfl (fun w' hm => ⟨?_, hm.base (by simp)⟩)
  have hno : ¬numC p ns := fun hC => by
   obtain ⟨z1, z2, z3, z4, z5, z6, z7⟩ := hC
   simp only [hb39, hb38, hb28, hb27, hb18, hb17, hb10, hb9, Bool.or_eq_false_iff, decide_eq_false_iff_not, Bool.not_eq_false', Bool.not_eq_true', decide_eq_true_eq, ne_eq, Decidable.not_not, Bool.or_eq_true] at hc39
   rcases hc39 with ((h | h) | h) | h
   ·exact h z1
   all_goals omega
  rw [(numP_none hno).1, (numP_none hno).2]
 have hc9 := hc39
 simp only [hb39, hb38, hb28, hb27, hb18, hb17, hb10, hb9, Bool.or_eq_false_iff, decide_eq_false_iff_not, Bool.not_eq_false', Bool.not_eq_true', decide_eq_true_eq, ne_eq, Decidable.not_not, Bool.or_eq_true] at hc9
 obtain ⟨⟨⟨hq, hl⟩, hg1⟩, hg2⟩ := hc9
 have q1 := hq.1.1
 have q2 := hq.1.2.1
 have q3 := hq.1.2.2.1
 have q5 := hq.1.2.2.2.2
 have hl : ns.length = p.lv.length := by omega
 have hv0 : 0 ≤ valNs p ns 0 ∧ valNs p ns 0 ≤ 100000 := by show 0 ≤ ns.getD 0 0 - p.st.getD 0 0 ∧ ns.getD 0 0 - p.st.getD 0 0 ≤ 100000; omega
 have hbr := baseP_rng hq
 refine w_skip (Zt (Zs ?_))
 refine rg_draw 9 [(true, 0), (true, 1), (true, 2), (true, 3), (true, 4), (true, 5), (true, 6), (true, 7), (true, 8)] Zk Zk ?_
 refine Xm ?_
 refine Xv rfl (v_indexAddr (j := 0) u22 sz3 (congrArg (fun A => some (Value.slice A ns.length c3)) (hN0 (by omega)).1) rfl Zo rfl) ?_
 refine Xv rfl (v_load u3 rfl rfl (at_ro (.head _) trivial (by rw [Nat.mul_one]; exact (hNk (0) (by omega)).1))) ?_
 refine Xv rfl (v_fieldAddr (off' := 3) u26 rfl sz22 (by decide) rfl rfl) ?_
 refine Xv rfl (Vl u22 rfl) ?_
 refine Xv rfl (v_indexAddr (j := 0) u22 sz3 (congrArg (fun A => some (Value.slice A p.st.length c2)) (hS0 (by omega)).1) rfl Zo rfl) ?_
 refine Xv rfl (v_load u3 rfl rfl (at_ro (.head _) trivial (by rw [Nat.mul_one]; exact (hSk (0) (by omega)).1))) ?_
 refine Xv rfl (v_subi rfl rfl rfl Zo) ?_
 refine Xa ?_
 refine Ze (Zt (Zs (Zs (Zr ?_))))
 refine Xa ?_
 refine Ze (Zt (w_block ?_))
 refine w_loop (σ := Nat) (fun k => k < ns.length ∧ ∀ j, j ≤ k → 1 ≤ j → 1 ≤ ns.getD j 0 ∧ ns.getD j 0 ≤ p.lv.getD j 0) (fun k => [(1, Value.slice A3 ns.length c3), (2, .pointer (some ⟨p2, 0, none⟩)), (6, Value.int .i64 (valNs p ns k)), (7, Value.int .i64 ((k + 1 : Nat) : Int))]) (fun k => [(p2, Obj.cells #[Value.int .i64 p.first, Value.int .i64 p.days, Value.slice A1 p.lv.length c1, Value.slice A2 p.st.length c2] 26)]) (fun k => [(w, fun _ => True)]) (fun k => ns.length - k) (0) (⟨by omega, fun j h1 h2 => by omega⟩) (l_start Zu (fun _ h => h)) ?_
 rintro k ⟨hk, hall⟩
 have hv := valNs_le hq hv0 (show k < p.lv.length by omega) hall
 refine Zs (Zs (Zr ?_))
 refine Xm ?_
 refine Xm ?_
 refine Xv rfl (v_len_slice u22 rfl) ?_
 refine Xb rfl (v_lss rfl rfl) fun b51 hb51 => ?_
 refine Ze (Zt ?_)
 refine w_cond rfl (fun hc51 => ?_) (fun hc51 => ?_)
 ·simp only [hb51, Qz, ne_eq] at hc51
  have hkl : k + 1 < ns.length := by omega
  obtain ⟨a1, a2, a3, a4⟩ := hq.at (j := k + 1) (by omega) (by omega)
  have m1 : 0 ≤ valNs p ns k * p.lv.getD (k + 1) 0 := Int.mul_nonneg hv.1 (by omega)
  have m2 : valNs p ns k * p.lv.getD (k + 1) 0 ≤ 100001000000000 * 1000 := Int.mul_le_mul (by omega) a2 (by omega) (by decide)
  refine w_skip (Zt (Zs (w_block (Zs (Zs ?_)))))
  refine rg_draw 17 [(true, 0), (true, 1), (true, 2), (true, 3), (true, 4), (true, 5), (true, 6), (true, 7), (true, 8), (true, 9), (true, 10), (true, 11), (true, 12), (true, 13), (true, 14), (true, 15), (true, 16)] Zk Zk ?_
  refine Xm ?_
  refine Xm ?_
  refine Xv rfl (v_indexAddr u22 sz3 (congrArg (fun A => some (Value.slice A ns.length c3)) (hN0 (by omega)).1) rfl Zo rfl) ?_
  refine Xv rfl (v_load u3 rfl rfl (at_ro (.head _) trivial (by rw [Nat.mul_one]; exact (hNk (k + 1) (by omega)).1))) ?_
  refine Xb rfl (v_lss rfl rfl) fun b58 hb58 => ?_
  refine Xm ?_
  refine Xg ?_
  refine Xg ?_
  refine Xi rfl rfl rfl (fun hg0 => by subst hg0; (try simp only [Qy]); exact v_indexAddr u22 sz3 (congrArg (fun A => some (Value.slice A ns.length c3)) (hN0 (by omega)).1) rfl Zo rfl) ?_
  refine Xi rfl rfl rfl (fun hg0 => by subst hg0; (try simp only [Qy]); exact v_load u3 rfl rfl (at_ro (.head _) trivial (by rw [Nat.mul_one]; exact (hNk (k + 1) (by omega)).1))) ?_
  refine Xi rfl rfl rfl (fun hg0 => by subst hg0; (try simp only [Qy]); exact v_fieldAddr (off' := 2) u26 rfl sz22 (by decide) rfl rfl) ?_
  refine Xi rfl rfl rfl (fun hg0 => by subst hg0; (try simp only [Qy]); exact Vl u22 rfl) ?_
  refine Xg ?_
  refine Xi rfl rfl rfl (fun hg0 => by subst hg0; (try simp only [Qy]); exact v_indexAddr u22 sz3 (congrArg (fun A => some (Value.slice A p.lv.length c1)) (hL0 (by omega)).1) rfl Zo rfl) ?_
  refine Xi rfl rfl rfl (fun hg0 => by subst hg0; (try simp only [Qy]); exact v_load u3 rfl rfl (at_ro (.head _) trivial (by rw [Nat.mul_one]; exact (hLk (k + 1) (by omega)).1))) ?_
  refine Xj rfl rfl rfl (fun hg0 => by subst hg0; (try simp only [Qy]); exact v_gtr rfl rfl) fun b69 hb69 => ?_
  refine Xb rfl (v_or rfl rfl) fun b70 hb70 => ?_
  refine Ze (Zt ?_)
  refine w_cond rfl (fun hc70 => ?_) (fun hc70 => ?_)
  ·simp only [hb70, hb69, hb58, Qz, ne_eq] at hc70
   refine Zs (Zr ?_)
   refine Xa ?_
   refine Xa ?_
   refine Ze (Zt (w_ret (t_ret (b_ret (t_ret (t_ret (b_ret (t_ret ?_))))))))
   refine ret2 rfl rfl rfl (fun w' hm => ⟨?_, hm.base (by simp)⟩)
   rw [(numP_none (fun hC => by have := hC.2.2.2.2.1 (k + 1) hkl (by omega); omega)).1, (numP_none (fun hC => by have := hC.2.2.2.2.1 (k + 1) hkl (by omega); omega)).2]
  simp only [hb70, hb69, hb58, Qz, ne_eq] at hc70
  have hnk : 1 ≤ ns.getD (k + 1) 0 ∧ ns.getD (k + 1) 0 ≤ p.lv.getD (k + 1) 0 := by omega
  refine w_skip (Zt ?_)
  refine rg_draw 14 [(true, 0), (true, 1), (true, 2), (true, 3), (true, 4), (true, 5), (true, 6), (true, 7), (true, 8), (true, 9), (true, 10), (true, 11), (true, 12), (true, 13)] Zk Zk ?_
  refine Xm ?_
  refine Xv rfl (v_fieldAddr (off' := 2) u26 rfl sz22 (by decide) rfl rfl) ?_
  refine Xv rfl (Vl u22 rfl) ?_
  refine Xm ?_
  refine Xv rfl (v_indexAddr u22 sz3 (congrArg (fun A => some (Value.slice A p.lv.length c1)) (hL0 (by omega)).1) rfl Zo rfl) ?_
  refine Xv rfl (v_load u3 rfl rfl (at_ro (.head _) trivial (by rw [Nat.mul_one]; exact (hLk (k + 1) (by omega)).1))) ?_
  refine Xv rfl (v_muli rfl rfl rfl Zo) ?_
  refine Xm ?_
  refine Xm ?_
  refine Xv rfl (v_indexAddr u22 sz3 (congrArg (fun A => some (Value.slice A ns.length c3)) (hN0 (by omega)).1) rfl Zo rfl) ?_
  refine Xv rfl (v_load u3 rfl rfl (at_ro (.head _) trivial (by rw [Nat.mul_one]; exact (hNk (k + 1) (by omega)).1))) ?_
  refine Xv rfl (v_addi rfl rfl rfl Zo) ?_
  refine Xv rfl (v_subi rfl rfl rfl Zo) ?_
  refine Xa ?_
  refine Ze (b_norm (Zt (Zr ?_)))
  refine Xm ?_
  refine Xv rfl (v_addi rfl rfl rfl Zo) ?_
  refine Xa ?_
  refine Ze ?_
  exact l_norm (k + 1) ⟨show k + 1 < ns.length by omega, fun j h1 h2 => by
   rcases Nat.lt_or_eq_of_le h1 with h3 | rfl
   ·exact hall j (by omega) h2
   exact hnk⟩ (by omega) Zu (fun _ h => h)
 simp only [hb51, Qz, ne_eq] at hc51
 have ek : k = p.lv.length - 1 := by omega
 subst ek
 have hva := val_all hl
 refine w_exit ?_
 refine t_exit ?_
 refine t_exit ?_
 refine b_hit ?_
 refine Zt (Zs (Zr ?_))
 refine Xm ?_
 refine Xv rfl (v_load_blk u26 rfl rfl (by first | exact .head _ | exact .tail _ (.head _) | exact .tail _ (.tail _ (.head _)) | (repeat (first | exact List.Mem.head _ | apply List.Mem.tail | apply List.mem_append_right))) (by exact sz26)) ?_
 refine x_callv rfl rfl rfl Tryz.func71 Zk rfl (fun w1 hw1 => c_base p w1 (hp.keep (Kept.later (hw1.base (by simp)))) hq) ?_
 refine Xv rfl (v_subi (c := numK p ns) rfl rfl (by rw [← hva]) (by rw [← hva]; omega)) ?_
 refine Xa ?_
 refine Ze (Zt (Zs (Zs (Zr ?_))))
 refine Xm ?_
 refine Xb rfl (v_lss rfl rfl) fun b89 hb89 => ?_
 refine Xm ?_
 refine Xg ?_
 refine Xj rfl rfl rfl (fun hg0 => by subst hg0; (try simp only [Qy]); exact v_geq rfl rfl) fun b92 hb92 => ?_
 refine Xb rfl (v_or rfl rfl) fun b93 hb93 => ?_
 refine Ze (Zt ?_)
 refine w_cond rfl (fun hc93 => ?_) (fun hc93 => ?_)
 ·simp only [hb93, hb92, hb89, Qz, ne_eq] at hc93
  refine Zs (Zr ?_)
  refine Xa ?_
  refine Xa ?_
  refine Ze (Zt (w_ret (t_ret ?_)))
  refine ret2 rfl rfl rfl (fun w' hm => ⟨?_, hm.base (by simp)⟩)
  rw [(numP_none (fun hC => by have := hC.2.2.2.2.2; omega)).1, (numP_none (fun hC => by have := hC.2.2.2.2.2; omega)).2]
 simp only [hb93, hb92, hb89, Qz, ne_eq] at hc93
 refine w_skip (Zt (Zs (Zr ?_)))
 refine Xm ?_
 refine Xa ?_
 refine Xa ?_
 refine Ze (Zt (w_ret ?_))
 refine ret2 rfl rfl rfl (fun w' hm => ⟨?_, hm.base (by simp)⟩)
 have hC : numC p ns := ⟨hq, hl, by omega, by omega, fun j h1 h2 => hall j (by omega) h2, by omega, by omega⟩
 rw [(numP_some hC).1, (numP_some hC).2]
open Go.RowKit Go.PK
theorem tmodN {n m : Int} (h : 0 < m) : (n.tmod m + m).tmod m = n % m := tmod_mod n m h
theorem c_Clone {w : World} {own : List (Nat × Obj)} {ro : List Snap} {D : Nat → Prop} {v : Value} {ds : List Int} (hm : Mem w own ro) (h : sliceRd tyI D w v ds) (hl : ds.length ≤ 20) :
  Calls Tryz.prog 34 #[v] w fun e w' => ∃ r, e = .returned (rowV r ds.length) ∧ Later w w' ∧ rowOK 1 r ds.length (ds.map (Value.int .i64)) ∧ Mem w' (rowO 3 r ++ own) ro := by
 have h' := h
 obtain ⟨A, c, rfl, h1, h2, h3⟩ := h
 have fin : ∀ v' w', w'.ownsRow w.heap.size 3 1 v' ds.length (ds.map (Value.int .i64)) → Later w w' → ∃ r, Ending.returned v' = .returned (rowV r ds.length) ∧ Later w w' ∧ rowOK 1 r ds.length (ds.map (Value.int .i64)) ∧ Mem w' (rowO 3 r ++ own) ro := fun v' w' ho hb => by
  obtain ⟨r, e1, e2, e3⟩ := hm.ofRow hb (Nat.le_refl _) ho
  exact ⟨r, by rw [e1], hb, e2, e3⟩
 by_cases h0 : ds = []
 ·subst h0
  cases A with
  | none => exact (Tryz.slices_Clone_int_nil 0 c w).mono fun e w' ⟨e1, e2⟩ => ⟨none, e1, by rw [e2]; exact Later.refl w, rowOK_nil, by rw [e2]; exact hm⟩
  | some a => exact (Tryz.slices_Clone_int_zero a c w).mono fun e w' ⟨v', e1, e2, _, e3⟩ => by subst e1; exact fin v' w' e2 e3
 have hp : 0 < ds.length := List.length_pos_iff.2 h0
 obtain ⟨b, off, rfl, _⟩ := int_at h' hp
 refine (Tryz.slices_Clone_int b off ds.length c ds w (Nat.le_refl _) (by omega) (fun j hj => ?_)).mono fun e w' ⟨v', e1, e2, _, e3⟩ => ?_
 ·obtain ⟨b', off', hA, _, hc, _⟩ := int_at h' hj
  injection hA with hA
  injection hA with hb ho
  subst hb; subst ho
  rw [hc, List.getD_eq_getElem?_getD, List.getElem?_eq_getElem hj]; rfl
 subst e1
 rw [List.take_length] at e2
 exact fin v' w' e2 e3
theorem c_Md (n m : Int) (w : World) (hn : in64 n) (hmm : 0 < m ∧ m ≤ 4000000000) :
  Calls Tryz.prog 15 #[.int .i64 n, .int .i64 m] w fun e w' => e = .returned (.int .i64 (n % m)) ∧ Later w w' := by
 refine enter (vs := [.int .i64 n, .int .i64 m]) Tryz.func15 rfl Tryz.ntmps15 rfl ?_
 refine Zs (Zr ?_)
 refine Xa ?_
 refine Ze (Zt (Zs (Zr ?_)))
 refine Xm ?_
 refine Xm ?_
 refine Xv rfl (v_rem rfl rfl (by omega)) ?_
 refine Xm ?_
 refine Xv rfl (v_addi (c := n.tmod m + m) rfl rfl rfl (by have := tmod_bd n m hmm.1; omega)) ?_
 refine Xm ?_
 refine Xv rfl (v_rem rfl rfl (by omega)) ?_
 refine Xa ?_
 refine Ze (Zt (w_ret ?_))
 refine ret1 rfl rfl (fun w' hm => ⟨?_, hm.base (by simp)⟩)
 rw [tmodN hmm.1]
theorem c_Same {u v : Value} {D1 D2 : Nat → Prop} {xs ys : List Int} (w : World) (hx : sliceRd tyI D1 w u xs) (hy : sliceRd tyI D2 w v ys) :
  Calls Tryz.prog 48 #[u, v] w fun e w' => e = .returned (.bool (decide (xs = ys))) ∧ Later w w' := by
 obtain ⟨xA, xc, rfl, _, hxm, _⟩ := id hx
 obtain ⟨yA, yc, rfl, _, hym, _⟩ := id hy
 refine enter (vs := [Value.slice xA xs.length xc, Value.slice yA ys.length yc]) Tryz.func48 rfl Tryz.ntmps48 rfl ?_
 refine Zs (Zr ?_)
 refine Xa ?_
 refine Ze (Zt (Zs (Zs (Zr ?_))))
 refine Xm ?_
 refine Xv rfl (v_len_slice u22 rfl) ?_
 refine Xm ?_
 refine Xv rfl (v_len_slice u22 rfl) ?_
 refine Xb rfl (v_neq rfl rfl) fun b10 hb10 => ?_
 refine Ze (Zt ?_)
 refine w_cond rfl (fun hc10 => ?_) (fun hc10 => ?_)
 ·have hno : ¬xs = ys := fun h => by rw [hb10, h] at hc10; simp at hc10
  refine Zs (Zr ?_)
  refine Xa ?_
  refine Ze (Zt (w_ret (t_ret ?_)))
  refine ret1 rfl rfl (fun w' hm => ⟨?_, hm.base (by simp)⟩)
  rw [decide_eq_false hno]
 have hlen : xs.length = ys.length := by rw [hb10] at hc10; simp at hc10; omega
 refine w_skip (Zt (Zs (Zs (Zr ?_))))
 refine Xa ?_
 refine Ze (Zt (w_block ?_))
 refine w_loop (σ := Nat) (fun k => k ≤ xs.length ∧ xs.take k = ys.take k) (fun k => [(0, Value.slice xA xs.length xc), (1, Value.slice yA ys.length yc), (5, Value.int .i64 (k : Nat))]) (fun k => []) (fun k => [(w, fun _ => True)]) (fun k => xs.length - k) (0) (⟨Nat.zero_le _, rfl⟩) (l_start Zu (fun _ h => h)) ?_
 rintro k ⟨hk, heq⟩
 refine w_state ([(0, Value.slice xA xs.length xc), (1, Value.slice yA ys.length yc), (5, Value.int .i64 (k : Nat))]) ([]) ([(w, fun _ => True)]) ?_
 refine Zs (Zs (Zr ?_))
 refine Xm ?_
 refine Xm ?_
 refine Xv rfl (v_len_slice u22 rfl) ?_
 refine Xb rfl (v_lss rfl rfl) fun b14 hb14 => ?_
 refine Ze (Zt ?_)
 refine w_cond rfl (fun hc14 => ?_) (fun hc14 => ?_)
 ·simp only [hb14, Qz, ne_eq] at hc14
  have hk1 : k < xs.length := by omega
  have hk2 : k < ys.length := by omega
  obtain ⟨xb, xo, hxA, _, hxc, _⟩ := int_at hx hk1
  obtain ⟨yb, yo, hyA, _, hyc, _⟩ := int_at hy hk2
  refine w_skip (Zt (Zs (w_block (Zs ?_))))
  refine rg_draw 9 [(true, 0), (true, 1), (true, 2), (true, 3), (true, 4), (true, 5), (true, 6), (true, 7), (true, 8)] Zk Zk ?_
  refine Xm ?_
  refine Xm ?_
  refine Xv rfl (v_indexAddr u22 sz3 (congrArg (fun A => some (Value.slice A xs.length xc)) hxA) rfl Zo rfl) ?_
  refine Xv rfl (v_load u3 rfl rfl (at_ro (.head _) trivial (by rw [Nat.mul_one]; exact hxc))) ?_
  refine Xm ?_
  refine Xm ?_
  refine Xv rfl (v_indexAddr u22 sz3 (congrArg (fun A => some (Value.slice A ys.length yc)) hyA) rfl Zo rfl) ?_
  refine Xv rfl (v_load u3 rfl rfl (at_ro (.head _) trivial (by rw [Nat.mul_one]; exact hyc))) ?_
  refine Xb rfl (v_neq rfl rfl) fun b25 hb25 => ?_
  refine Ze (Zt ?_)
  refine w_cond rfl (fun hc25 => ?_) (fun hc25 => ?_)
  ·have hno : ¬xs = ys := fun h => by
    subst h
    rw [hb25] at hc25; simp at hc25
   refine Zs (Zr ?_)
   refine Xa ?_
   refine Ze (Zt (w_ret (b_ret (t_ret (t_ret (b_ret (t_ret ?_)))))))
   refine ret1 rfl rfl (fun w' hm => ⟨?_, hm.base (by simp)⟩)
   rw [decide_eq_false hno]
  have he : xs[k] = ys[k] := by rw [hb25] at hc25; simpa using hc25
  refine w_skip (b_norm (Zt (Zr ?_)))
  refine Xm ?_
  refine Xv rfl (v_addi rfl rfl rfl Zo) ?_
  refine Xa ?_
  refine Ze ?_
  exact l_norm (k + 1) ⟨by omega, by rw [take_snoc hk1, take_snoc hk2, heq, he]⟩ (by omega) Zu (fun _ h => h)
 simp only [hb14, Qz, ne_eq] at hc14
 obtain rfl : k = xs.length := by omega
 rw [List.take_length, hlen, List.take_length] at heq
 refine w_exit ?_
 refine t_exit ?_
 refine t_exit ?_
 refine b_hit ?_
 refine Zt (Zs (Zr ?_))
 refine Xa ?_
 refine Ze (Zt (w_ret ?_))
 refine ret1 rfl rfl (fun w' hm => ⟨?_, hm.base (by simp)⟩)
 rw [decide_eq_true heq]
theorem c_SameI {u v : Value} {D1 D2 : Nat → Prop} {xs ys : List Iss} (w : World) (hx : sliceRd tyIss D1 w u xs) (hy : sliceRd tyIss D2 w v ys) :
  Calls Tryz.prog 16 #[u, v] w fun e w' => e = .returned (.bool (decide (xs = ys))) ∧ Later w w' := by
 obtain ⟨xA, xc, rfl, _, hxm, _⟩ := id hx
 obtain ⟨yA, yc, rfl, _, hym, _⟩ := id hy
 refine enter (vs := [Value.slice xA xs.length xc, Value.slice yA ys.length yc]) Tryz.func16 rfl Tryz.ntmps16 rfl ?_
 refine Zs (Zr ?_)
 refine Xa ?_
 refine Ze (Zt (Zs (Zs (Zr ?_))))
 refine Xm ?_
 refine Xv rfl (v_len_slice u40 rfl) ?_
 refine Xm ?_
 refine Xv rfl (v_len_slice u40 rfl) ?_
 refine Xb rfl (v_neq rfl rfl) fun b11 hb11 => ?_
 refine Ze (Zt ?_)
 refine w_cond rfl (fun hc11 => ?_) (fun hc11 => ?_)
 ·have hno : ¬xs = ys := fun h => by rw [hb11, h] at hc11; simp at hc11
  refine Zs (Zr ?_)
  refine Xa ?_
  refine Ze (Zt (w_ret (t_ret ?_)))
  refine ret1 rfl rfl (fun w' hm => ⟨?_, hm.base (by simp)⟩)
  rw [decide_eq_false hno]
 have hlen : xs.length = ys.length := by rw [hb11] at hc11; simp at hc11; omega
 refine w_skip (Zt (Zs (Zs (Zr ?_))))
 refine Xa ?_
 refine Ze (Zt (w_block ?_))
 refine w_loop (σ := Nat) (fun k => k ≤ xs.length ∧ xs.take k = ys.take k) (fun k => [(0, Value.slice xA xs.length xc), (1, Value.slice yA ys.length yc), (5, Value.int .i64 (k : Nat))]) (fun k => []) (fun k => [(w, fun _ => True)]) (fun k => xs.length - k) (0) (⟨Nat.zero_le _, rfl⟩) (l_start Zu (fun _ h => h)) ?_
 rintro k ⟨hk, heq⟩
 refine w_state ([(0, Value.slice xA xs.length xc), (1, Value.slice yA ys.length yc), (5, Value.int .i64 (k : Nat))]) ([]) ([(w, fun _ => True)]) ?_
 refine Zs (Zs (Zr ?_))
 refine Xm ?_
 refine Xm ?_
 refine Xv rfl (v_len_slice u40 rfl) ?_
 refine Xb rfl (v_lss rfl rfl) fun b15 hb15 => ?_
 refine Ze (Zt ?_)
 refine w_cond rfl (fun hc15 => ?_) (fun hc15 => ?_)
 ·simp only [hb15, Qz, ne_eq] at hc15
  have hk1 : k < xs.length := by omega
  have hk2 : k < ys.length := by omega
  obtain ⟨xb, xo, xv, hxA, _, hxc, hxd, hxn, _⟩ := iss_at hx hk1
  obtain ⟨yb, yo, yv, hyA, _, hyc, hyd, hyn, _⟩ := iss_at hy hk2
  refine w_skip (Zt (Zs (w_block (Zs ?_))))
  refine rg_draw 12 [(true, 0), (true, 1), (true, 2), (true, 3), (true, 4), (true, 5), (true, 6), (true, 7), (true, 8), (true, 9), (true, 10), (true, 11)] Zk Zk ?_
  refine Xm ?_
  refine Xm ?_
  refine Xv rfl (v_indexAddr u40 sz48 (congrArg (fun A => some (Value.slice A xs.length xc)) hxA) rfl Zo rfl) ?_
  refine Xv rfl (v_fieldAddr u48 rfl sz22 (by decide) rfl rfl) ?_
  refine Xv rfl (v_load u22 rfl rfl (at_ro (.head _) trivial hxc)) ?_
  refine Xm ?_
  refine Xm ?_
  refine Xv rfl (v_indexAddr u40 sz48 (congrArg (fun A => some (Value.slice A ys.length yc)) hyA) rfl Zo rfl) ?_
  refine Xv rfl (v_fieldAddr u48 rfl sz22 (by decide) rfl rfl) ?_
  refine Xv rfl (v_load u22 rfl rfl (at_ro (.head _) trivial hyc)) ?_
  refine x_callb rfl rfl rfl Tryz.func48 Zk rfl (fun w1 hw1 => c_Same w1 (hxn.keep (Kept.later (hw1.base (by simp)))) (hyn.keep (Kept.later (hw1.base (by simp))))) fun b28 hb28 => ?_
  refine Xa ?_
  refine Ze (Zt (Zs ?_))
  refine rg_draw 15 [(true, 0), (true, 1), (true, 2), (true, 3), (true, 4), (true, 5), (true, 6), (true, 7), (true, 8), (true, 9), (true, 10), (true, 11), (true, 12), (true, 13), (true, 14)] Zk Zk ?_
  refine Xm ?_
  refine Xb rfl (v_not rfl) fun b30 hb30 => ?_
  refine Xm ?_
  refine Xg ?_
  refine Xg ?_
  refine Xi rfl rfl rfl (fun hg0 => by subst hg0; (try simp only [Qy]); exact v_indexAddr u40 sz48 (congrArg (fun A => some (Value.slice A xs.length xc)) hxA) rfl Zo rfl) ?_
  refine Xi rfl rfl rfl (fun hg0 => by subst hg0; (try simp only [Qy]); exact v_fieldAddr u48 rfl sz3 (by decide) rfl rfl) ?_
  refine Xi rfl rfl rfl (fun hg0 => by subst hg0; (try simp only [Qy]); exact v_load u3 rfl rfl (at_ro (.head _) trivial hxd)) ?_
  refine Xg ?_
  refine Xg ?_
  refine Xi rfl rfl rfl (fun hg0 => by subst hg0; (try simp only [Qy]); exact v_indexAddr u40 sz48 (congrArg (fun A => some (Value.slice A ys.length yc)) hyA) rfl Zo rfl) ?_
  refine Xi rfl rfl rfl (fun hg0 => by subst hg0; (try simp only [Qy]); exact v_fieldAddr u48 rfl sz3 (by decide) rfl rfl) ?_
  refine Xi rfl rfl rfl (fun hg0 => by subst hg0; (try simp only [Qy]); exact v_load u3 rfl rfl (at_ro (.head _) trivial hyd)) ?_
  refine Xj rfl rfl rfl (fun hg0 => by subst hg0; (try simp only [Qy]); exact v_neq rfl rfl) fun b42 hb42 => ?_
  refine Xb rfl (v_or rfl rfl) fun b43 hb43 => ?_
  refine Ze (Zt ?_)
  refine w_cond rfl (fun hc43 => ?_) (fun hc43 => ?_)
  ·have hno : ¬xs = ys := fun h => by
    subst h
    rw [hb43, hb42, hb30, hb28] at hc43; simp at hc43
   refine Zs (Zr ?_)
   refine Xa ?_
   refine Ze (Zt (w_ret (b_ret (t_ret (t_ret (b_ret (t_ret ?_)))))))
   refine ret1 rfl rfl (fun w' hm => ⟨?_, hm.base (by simp)⟩)
   rw [decide_eq_false hno]
  have he : xs[k] = ys[k] := by
   rw [hb43, hb42, hb30, hb28] at hc43
   simp only [Bool.or_eq_false_iff, decide_eq_false_iff_not, Bool.not_eq_false', decide_eq_true_eq, ne_eq, Decidable.not_not] at hc43
   cases hX : xs[k]; cases hY : ys[k]; rw [hX, hY] at hc43; simp only at hc43; rw [hc43.1, hc43.2]
  refine w_skip (b_norm (Zt (Zr ?_)))
  refine Xm ?_
  refine Xv rfl (v_addi rfl rfl rfl Zo) ?_
  refine Xa ?_
  refine Ze ?_
  exact l_norm (k + 1) ⟨by omega, by rw [take_snoc hk1, take_snoc hk2, heq, he]⟩ (by omega) Zu (fun _ h => h)
 simp only [hb15, Qz, ne_eq] at hc15
 obtain rfl : k = xs.length := by omega
 rw [List.take_length, hlen, List.take_length] at heq
 refine w_exit ?_
 refine t_exit ?_
 refine t_exit ?_
 refine b_hit ?_
 refine Zt (Zs (Zr ?_))
 refine Xa ?_
 refine Ze (Zt (w_ret ?_))
 refine ret1 rfl rfl (fun w' hm => ⟨?_, hm.base (by simp)⟩)
 rw [decide_eq_true heq]
theorem c_lissue (d : Int) (A : Option Addr) (l c : Nat) (w : World) :
  Calls Tryz.prog 31 #[.int .i64 d, .slice A l c] w fun e w' => e = .returned (.agg #[.slice A l c, .int .i64 d]) ∧ Later w w' := by
 refine enter (vs := [.int .i64 d, .slice A l c]) Tryz.func31 rfl Tryz.ntmps31 rfl ?_
 refine Zs (Zr ?_)
 refine x_alloc rfl rfl rfl zr48 ?_
 intro p4
 refine Ze (Zt (Zs (Zr ?_)))
 refine Xm ?_
 refine Xm ?_
 refine Xv rfl (v_buildL (places := [(0, 1), (1, 1)]) u48 zr48 Zk rfl rfl) ?_
 refine x_store0 [] rfl rfl rfl rfl sz48 rfl rfl ?_
 refine Ze (Zt (w_ret ?_))
 refine retc rfl rfl (.head _) u48 rfl sz48 (fun w' hm => ⟨rfl, hm.base (by simp)⟩)
open Go.RowKit Go.PK
theorem c_Numbers {D : Nat → Prop} {v1 v2 : Value} (p : Pat) (k : Int) (w : World) (hp : patRd D w p v1 v2) (hq : rightQ p) (h0 : 0 ≤ k) (hk : k ≤ 2000000) :
  Calls Tryz.prog 52 #[.agg #[.int .i64 p.first, .int .i64 p.days, v1, v2], .int .i64 k] w fun e w' => ∃ v, e = .returned v ∧ Later w w' ∧ sliceRd tyI (fun b => w.heap.size ≤ b) w' v (numsP p k) := by
 obtain ⟨hp1, hp2, h1, h2⟩ := id hp
 obtain ⟨A1, c1, rfl, hlc1, hmx1, hB1⟩ := id h1
 obtain ⟨A2, c2, rfl, hlc2, hmx2, hB2⟩ := id h2
 obtain ⟨bL, oL, hL0, hLk⟩ := rd_blk h1
 obtain ⟨bS, oS, hS0, hSk⟩ := rd_blk h2
 have q1 := hq.1.1
 have q2 := hq.1.2.1
 have q3 := hq.1.2.2.1
 refine enter (vs := [.agg #[.int .i64 p.first, .int .i64 p.days, .slice A1 p.lv.length c1, .slice A2 p.st.length c2], .int .i64 k]) Tryz.func52 rfl Tryz.ntmps52 rfl ?_
 refine Zs (Zr ?_)
 refine x_box rfl rfl rfl rfl ?_
 intro p2
 refine Xa ?_
 refine Ze (Zt (Zs (Zr ?_)))
 refine x_buildSlice0 rfl rfl rfl u22 sz3 ?_
 intro p9
 refine Xv rfl (v_fieldAddr (off' := 3) u26 rfl sz22 (by decide) rfl rfl) ?_
 refine Xv rfl (Vl u22 rfl) ?_
 obtain ⟨hno, hat, _⟩ := ints_news h2
 refine x_append_any (e := 3) (news := p.st.map (Value.int .i64)) [] (l2 := [(p2, Obj.cells #[Value.int .i64 p.first, Value.int .i64 p.days, Value.slice A1 p.lv.length c1, Value.slice A2 p.st.length c2] 26)]) (some (p9, [], 0)) (len := 0) (xs := []) rfl rfl rfl rfl rfl ⟨rfl, Nat.le_refl _, Nat.zero_le _, rfl, rfl⟩ u22 ap3 rfl (by rw [List.length_map, Nat.mul_one]) hno (fun w1 hw1 => hat w1 (hw1.base (w0 := w) (by simp))) (ints_one _) Zx (by omega) fun r' hr' => ?_
 rw [List.nil_append, Nat.zero_add] at hr'
 rw [Nat.zero_add p.st.length]
 refine Xa ?_
 refine Ze (Zt (Zs (Zr ?_)))
 refine Xm ?_
 refine Xv (v := Value.int .i64 (carryR p k (p.lv.length - 1))) rfl (by rw [(outR_start hq k).2]; exact v_assign rfl) ?_
 refine Ze (Zt (Zs (Zs (Zr ?_))))
 refine Xm ?_
 refine Xv rfl (v_len_slice u22 rfl) ?_
 refine Xv rfl (v_subi (c := ((p.lv.length - 1 : Nat) : Int)) rfl rfl (by omega) (by omega)) ?_
 refine Xa ?_
 refine Ze (Zt (w_block ?_))
 refine w_loop (σ := RowS × Nat) (fun x => x.2 < p.lv.length ∧ rowOK 1 x.1 p.st.length ((outR p k x.2).map (Value.int .i64))) (fun x => [(2, .pointer (some ⟨p2, 0, none⟩)), (5, rowV x.1 p.st.length), (6, Value.int .i64 (carryR p k x.2)), (7, Value.int .i64 (x.2 : Nat))]) (fun x => rowO 3 x.1 ++ [(p2, Obj.cells #[Value.int .i64 p.first, Value.int .i64 p.days, Value.slice A1 p.lv.length c1, Value.slice A2 p.st.length c2] 26)]) (fun x => [(w, fun _ => True)]) (fun x => x.2) ((r', p.lv.length - 1)) (⟨show p.lv.length - 1 < p.lv.length by omega, by rw [(outR_start hq k).1]; exact hr'⟩) (l_start Zu (fun _ h => h)) ?_
 rintro ⟨R, i⟩ ⟨hi, hR⟩
 refine w_state ([(2, .pointer (some ⟨p2, 0, none⟩)), (5, rowV R p.st.length), (6, Value.int .i64 (carryR p k i)), (7, Value.int .i64 (i : Nat))]) (rowO 3 R ++ [(p2, Obj.cells #[Value.int .i64 p.first, Value.int .i64 p.days, Value.slice A1 p.lv.length c1, Value.slice A2 p.st.length c2] 26)]) ([(w, fun _ => True)]) ?_
 dsimp only at hi hR
 have hcr := carryR_rng hq h0 i
 have hol := outR_len hq (k := k) hi
 refine Zs (Zs (Zr ?_))
 refine Xm ?_
 refine Xb rfl (v_gtr rfl rfl) fun b18 hb18 => ?_
 refine Ze (Zt ?_)
 refine w_cond rfl (fun hc18 => ?_) (fun hc18 => ?_)
 ·simp only [hb18, Qz, ne_eq] at hc18
  obtain ⟨j, rfl⟩ : ∃ j, i = j + 1 := ⟨i - 1, by omega⟩
  obtain ⟨a1, a2, a3, a4⟩ := hq.at (j := j + 1) (by omega) hi
  obtain ⟨o1, o2, o3⟩ := outR_step (k := k) q3 hi
  obtain ⟨b0, cs0, cp0, rfl, hcs0⟩ := hR.cell (j := j + 1) (by rw [List.length_map, hol]; omega)
  rw [List.getElem_map, ← getD_lt, o1] at hcs0
  have hcl : p.lv.length ≤ cs0.length := by have h1 := hR.2.2.2.1; have h2 := hR.2.1; dsimp only at h1 h2; omega
  have em := Int.emod_nonneg (p.st.getD (j + 1) 0 - 1 + carryR p k (j + 1)) (show p.lv.getD (j + 1) 0 ≠ 0 by omega)
  have em2 := Int.emod_lt_of_pos (p.st.getD (j + 1) 0 - 1 + carryR p k (j + 1)) (show 0 < p.lv.getD (j + 1) 0 by omega)
  have hcr0 := carryR_rng hq h0 j
  refine w_skip (Zt (Zs (w_block (Zs (Zr ?_)))))
  refine Xm ?_
  refine Xm ?_
  refine Xv rfl (v_indexAddr u22 sz3 rfl rfl Zo rfl) ?_
  refine Xv rfl (v_load u3 rfl rfl (at_ownL (vs := cs0) (.head _) (by rw [Nat.mul_one, Nat.zero_add]; exact hcs0))) ?_
  refine Xv rfl (v_subi rfl rfl rfl Zo) ?_
  refine Xm ?_
  refine Xv rfl (v_addi rfl rfl rfl Zo) ?_
  refine Xa ?_
  refine Ze (Zt (Zs (Zr ?_)))
  refine Xm ?_
  refine Xm ?_
  refine Xm ?_
  refine Xv rfl (v_fieldAddr (off' := 2) u26 rfl sz22 (by decide) rfl rfl) ?_
  refine Xv rfl (v_load u22 rfl rfl (at_ownL (.tail _ (.head _)) rfl)) ?_
  refine Xm ?_
  refine Xv rfl (v_indexAddr u22 sz3 (congrArg (fun A => some (Value.slice A p.lv.length c1)) (hL0 (by omega)).1) rfl Zo rfl) ?_
  refine Xv rfl (v_load u3 rfl rfl (at_ro (.head _) trivial (by rw [Nat.mul_one]; exact (hLk (j + 1) (by omega)).1))) ?_
  refine Xv (v := Value.int .i64 ((p.st.getD (j + 1) 0 - 1 + carryR p k (j + 1)) % p.lv.getD (j + 1) 0)) rfl (by rw [← Int.tmod_eq_emod_of_nonneg (show 0 ≤ p.st.getD (j + 1) 0 - 1 + carryR p k (j + 1) by omega)]; exact v_rem rfl rfl (by omega)) ?_
  refine Xv rfl (v_addi rfl rfl rfl Zo) ?_
  refine Xv rfl (v_indexAddr u22 sz3 rfl rfl Zo rfl) ?_
  refine x_store (cs := cs0) (off := 0 + (j + 1) * 1) [] (l2 := [(p2, Obj.cells #[Value.int .i64 p.first, Value.int .i64 p.days, Value.slice A1 p.lv.length c1, Value.slice A2 p.st.length c2] 26)]) rfl rfl rfl rfl sz3 rfl (by rw [Nat.mul_one, Nat.zero_add]; omega) ?_
  rw [put_v (by omega)]
  refine Ze (Zt (Zr ?_))
  refine Xm ?_
  refine Xv rfl (v_fieldAddr (off' := 2) u26 rfl sz22 (by decide) rfl rfl) ?_
  refine Xv rfl (v_load u22 rfl rfl (at_ownL (.tail _ (.head _)) rfl)) ?_
  refine Xm ?_
  refine Xv rfl (v_indexAddr u22 sz3 (congrArg (fun A => some (Value.slice A p.lv.length c1)) (hL0 (by omega)).1) rfl Zo rfl) ?_
  refine Xv rfl (v_load u3 rfl rfl (at_ro (.head _) trivial (by rw [Nat.mul_one]; exact (hLk (j + 1) (by omega)).1))) ?_
  refine Xv rfl (v_quoi (c := carryR p k j) rfl rfl (by omega) (by rw [Int.tdiv_eq_ediv_of_nonneg (by omega), o2]) (by omega)) ?_
  refine Xa ?_
  refine Ze (b_norm (Zt (Zr ?_)))
  refine Xm ?_
  refine Xv rfl (v_subi (c := (j : Int)) rfl rfl (by omega) (by omega)) ?_
  refine Xa ?_
  refine Ze ?_
  exact l_norm (x := (some (b0, cs0, cp0), j + 1)) (μ := fun q : RowS × Nat => q.2) (some (b0, (cs0.set (j + 1) (Value.int .i64 ((p.st.getD (j + 1) 0 - 1 + carryR p k (j + 1)) % p.lv.getD (j + 1) 0 + 1))), cp0), j) ⟨show j < p.lv.length by omega, by dsimp only; rw [o3]; exact hR.setI (by omega)⟩ (by simp only; omega) Zu (fun _ h => h)
 simp only [hb18, Qz, ne_eq] at hc18
 obtain rfl : i = 0 := by omega
 obtain ⟨o1, o2⟩ := outR_end hq k
 obtain ⟨b0, cs0, cp0, rfl, hcs0⟩ := hR.cell (j := 0) (by rw [List.length_map, hol]; omega)
 rw [List.getElem_map, ← getD_lt, o1] at hcs0
 have hcl : p.lv.length ≤ cs0.length := by have h1 := hR.2.2.2.1; have h2 := hR.2.1; dsimp only at h1 h2; omega
 have h5 := hq.1.2.2.2.2.1
 have h6 := hq.1.2.2.2.2.2
 refine w_exit ?_
 refine t_exit ?_
 refine t_exit ?_
 refine b_hit ?_
 refine Zt (Zs (Zr ?_))
 refine Xm ?_
 refine Xm ?_
 refine Xv rfl (v_indexAddr (j := 0) u22 sz3 rfl rfl Zo rfl) ?_
 refine Xv rfl (v_load u3 rfl rfl (at_ownL (vs := cs0) (.head _) (by rw [Nat.mul_one, Nat.zero_add]; exact hcs0))) ?_
 refine Xm ?_
 refine Xv rfl (v_addi rfl rfl rfl Zo) ?_
 refine Xv rfl (v_indexAddr (j := 0) u22 sz3 rfl rfl Zo rfl) ?_
 refine x_store (cs := cs0) (off := 0 + 0 * 1) [] (l2 := [(p2, Obj.cells #[Value.int .i64 p.first, Value.int .i64 p.days, Value.slice A1 p.lv.length c1, Value.slice A2 p.st.length c2] 26)]) rfl rfl rfl rfl sz3 rfl (by rw [Nat.mul_one, Nat.zero_add]; omega) ?_
 rw [put_v (by omega)]
 refine Ze (Zt (Zs (Zr ?_)))
 refine Xm ?_
 refine Xa ?_
 refine Ze (Zt (w_ret ?_))
 refine ret1 rfl rfl (fun w' hm => ⟨_, rfl, hm.base (by simp), ?_⟩)
 have hr := hR.setI (k := 0) (x := p.st.getD 0 0 + carryR p k 0) (by omega)
 rw [o2] at hr
 exact rowI_rd (e := 3) (r := some (b0, cs0.set 0 (Value.int .i64 (p.st.getD 0 0 + carryR p k 0)), cp0)) hr (q3.trans (numsP_len hq k).symm) (nums_in64 hq h0 hk) hm (fun p hp => by rw [show p = _ from List.mem_singleton.1 hp]; exact .head _) (fun p hp => by rw [show p = _ from List.mem_singleton.1 hp]; exact hm.newer (by simp) (.head _))
theorem c_Made (f d : Int) {D : Nat → Prop} {v : Value} {l : List Int} (w : World) (hf : in64 f) (hd : in64 d) (hl : sliceRd tyI D w v l) :
  Calls Tryz.prog 32 #[.int .i64 f, .int .i64 d, v] w fun e w' => ∃ v1 v2, e = .returned (.agg #[.int .i64 (madeP f d l).first, .int .i64 (madeP f d l).days, v1, v2]) ∧ Later w w' ∧ patRd (fun b => w.heap.size ≤ b) w' (madeP f d l) v1 v2 := by
 obtain ⟨A, c, rfl, hlc, hmx, hA⟩ := id hl
 have f1 := Int.emod_nonneg f (show (10000 : Int) ≠ 0 by decide)
 have f2 := Int.emod_lt_of_pos f (show (0 : Int) < 10000 by decide)
 have d1 := Int.emod_nonneg d (show (10000 : Int) ≠ 0 by decide)
 have d2 := Int.emod_lt_of_pos d (show (0 : Int) < 10000 by decide)
 refine enter (vs := [.int .i64 f, .int .i64 d, .slice A l.length c]) Tryz.func32 rfl Tryz.ntmps32 rfl ?_
 refine Zs (Zr ?_)
 refine x_alloc rfl rfl rfl zr26 ?_
 intro p6
 refine Ze (Zt (Zs (Zr ?_)))
 refine Xm ?_
 refine x_callv (v := Value.int .i64 (f % 10000)) rfl rfl rfl Tryz.func15 Zk rfl (fun w1 hw1 => c_Md f 10000 w1 hf (by decide)) ?_
 refine Xv rfl (v_addi rfl rfl rfl Zo) ?_
 refine Xm ?_
 refine x_callv (v := Value.int .i64 (d % 10000)) rfl rfl rfl Tryz.func15 Zk rfl (fun w1 hw1 => c_Md d 10000 w1 hd (by decide)) ?_
 refine Xv rfl (v_addi rfl rfl rfl Zo) ?_
 refine x_buildSliceL (cs := [Value.int .i64 0]) rfl rfl rfl u22 sz3 zr3 rfl rfl rfl ?_
 intro p16
 refine Xm ?_
 refine x_callv (v := Value.int .i64 (f % 50)) rfl rfl rfl Tryz.func15 Zk rfl (fun w1 hw1 => c_Md f 50 w1 hf (by decide)) ?_
 refine x_buildSliceL (cs := [Value.int .i64 (f % 50)]) rfl rfl rfl u22 sz3 zr3 rfl rfl rfl ?_
 intro p19
 refine Xv rfl (v_buildL (places := [(0, 1), (1, 1), (2, 1), (3, 1)]) u26 zr26 Zk rfl rfl) ?_
 refine x_alloc rfl rfl rfl zr26 ?_
 intro p7
 refine x_store0 [] rfl rfl rfl rfl sz26 rfl rfl ?_
 refine Ze (Zt (Zs (Zs (Zr ?_))))
 refine Xa ?_
 refine Ze (Zt (w_block ?_))
 refine w_loop (σ := RowS × RowS × Nat) (fun x => x.2.2 ≤ 3 ∧ x.2.2 ≤ l.length ∧ rowOK 1 x.1 (x.2.2 + 1) ((0 :: madeL (l.take x.2.2)).map (Value.int .i64)) ∧ rowOK 1 x.2.1 (x.2.2 + 1) ((f % 50 :: madeS (l.take x.2.2)).map (Value.int .i64))) (fun x => [(2, Value.slice A l.length c), (6, .pointer (some ⟨p6, 0, none⟩)), (7, .pointer (some ⟨p7, 0, none⟩)), (8, Value.int .i64 (x.2.2 : Nat))]) (fun x => (p7, Obj.cells [Value.int .i64 (10000 + f % 10000), Value.int .i64 (1 + d % 10000), rowV x.1 (x.2.2 + 1), rowV x.2.1 (x.2.2 + 1)].toArray 26) :: (rowO 3 x.2.1 ++ (rowO 3 x.1 ++ [(p6, Obj.cells #[Value.int .i64 0, Value.int .i64 0, Value.slice none 0 0, Value.slice none 0 0] 26)]))) (fun x => [(w, fun _ => True)]) (fun x => 3 - x.2.2) ((some (p16, [Value.int .i64 0], 1), some (p19, [Value.int .i64 (f % 50)], 1), 0)) (⟨Nat.zero_le _, Nat.zero_le _, rowOK_lit (n := 1) (cs := [Value.int .i64 0]) rfl (by decide), rowOK_lit (n := 1) (cs := [Value.int .i64 (f % 50)]) rfl (by decide)⟩) (l_start Zu (fun _ h => h)) ?_
 rintro ⟨R, S, k⟩ ⟨hk, hkl, hR, hS⟩
 refine w_state ([(2, Value.slice A l.length c), (6, .pointer (some ⟨p6, 0, none⟩)), (7, .pointer (some ⟨p7, 0, none⟩)), (8, Value.int .i64 (k : Nat))]) ((p7, Obj.cells [Value.int .i64 (10000 + f % 10000), Value.int .i64 (1 + d % 10000), rowV R (k + 1), rowV S (k + 1)].toArray 26) :: (rowO 3 S ++ (rowO 3 R ++ [(p6, Obj.cells #[Value.int .i64 0, Value.int .i64 0, Value.slice none 0 0, Value.slice none 0 0] 26)]))) ([(w, fun _ => True)]) ?_
 dsimp only at hk hkl hR hS
 refine Zs (Zs (Zr ?_))
 refine Xm ?_
 refine Xm ?_
 refine Xv rfl (v_len_slice u22 rfl) ?_
 refine Xb rfl (v_lss rfl rfl) fun b24 hb24 => ?_
 refine Xm ?_
 refine Xg ?_
 refine Xj rfl rfl rfl (fun hg0 => by subst hg0; (try simp only [Qy]); exact v_lss rfl rfl) fun b27 hb27 => ?_
 refine Xb rfl (v_and rfl rfl) fun b28 hb28 => ?_
 refine Ze (Zt ?_)
 refine w_cond rfl (fun hc28 => ?_) (fun hc28 => ?_)
 ·simp only [hb28, hb27, hb24, Qz, ne_eq] at hc28
  have hk3 : k < 3 := by omega
  have hkl2 : k < l.length := by omega
  obtain ⟨b0, o0, hA0, _, hc0, hin⟩ := int_at hl hkl2
  unfold in64 at hin
  have em := Int.emod_nonneg l[k] (show (12 : Int) ≠ 0 by decide)
  have em2 := Int.emod_lt_of_pos l[k] (show (0 : Int) < 12 by decide)
  have hq12 : -9223372036854775808 ≤ l[k].tdiv 12 ∧ l[k].tdiv 12 ≤ 9223372036854775807 := tdiv_in hin (by decide)
  refine w_skip (Zt (Zs (w_block (Zs (Zr ?_)))))
  refine Xm ?_
  refine Xm ?_
  refine Xv rfl (v_indexAddr u22 sz3 (congrArg (fun A => some (Value.slice A l.length c)) hA0) rfl Zo rfl) ?_
  refine Xv rfl (v_load u3 rfl rfl (at_ro (.head _) trivial (by rw [Nat.mul_one]; exact hc0))) ?_
  refine x_callv (v := Value.int .i64 (l[k] % 12)) rfl rfl rfl Tryz.func15 Zk rfl (fun w1 hw1 => c_Md _ 12 w1 hin (by decide)) ?_
  refine Xv rfl (v_addi rfl rfl rfl Zo) ?_
  refine Xa ?_
  refine Ze (Zt (Zs (Zr ?_)))
  refine Xv rfl (v_fieldAddr (off' := 2) u26 rfl sz22 (by decide) rfl rfl) ?_
  refine Xv rfl (v_load u22 rfl rfl (at_ownL (.head _) rfl)) ?_
  refine Xm ?_
  refine x_buildSliceL (cs := [Value.int .i64 (1 + l[k] % 12)]) rfl rfl rfl u22 sz3 zr3 rfl rfl rfl ?_
  intro p40
  refine x_append (e := 3) ([(p40, Obj.cells [Value.int .i64 (1 + l[k] % 12)].toArray 3), (p7, Obj.cells [Value.int .i64 (10000 + f % 10000), Value.int .i64 (1 + d % 10000), rowV R (k + 1), rowV S (k + 1)].toArray 26)] ++ rowO 3 S) (l2 := [(p6, Obj.cells #[Value.int .i64 0, Value.int .i64 0, Value.slice none 0 0, Value.slice none 0 0] 26)]) R (len := k + 1) (xs := (0 :: madeL (l.take k)).map (Value.int .i64)) rfl rfl rfl rfl (by simp [List.append_assoc]) hR u22 ap3 rfl rfl (m := 1) (news := [Value.int .i64 (1 + l[k] % 12)]) (fun i hi => at_ownL (vs := [Value.int .i64 (1 + l[k] % 12)]) (.head _) (by rw [Nat.zero_add]; exact List.getElem?_eq_getElem hi)) rfl Zx (by omega) fun R' hR' => ?_
  refine Xv rfl (v_fieldAddr (off' := 2) u26 rfl sz22 (by decide) rfl rfl) ?_
  refine x_store (cs := [Value.int .i64 (10000 + f % 10000), Value.int .i64 (1 + d % 10000), rowV R (k + 1), rowV S (k + 1)]) (off := 2) (e := 26) (l2 := rowO 3 S ++ (rowO 3 R' ++ [(p6, Obj.cells #[Value.int .i64 0, Value.int .i64 0, Value.slice none 0 0, Value.slice none 0 0] 26)])) [(p40, Obj.cells [Value.int .i64 (1 + l[k] % 12)].toArray 3)] rfl rfl rfl (by simp [List.append_assoc]) sz22 rfl (by show 3 ≤ 4; decide) ?_
  refine Ze (Zt ?_)
  refine rg_draw 11 [(true, 0), (true, 1), (true, 2), (true, 3), (true, 4), (true, 5), (true, 6), (true, 7), (true, 8), (true, 9), (false, 10)] Zk Zk ?_
  refine Xv rfl (v_fieldAddr (off' := 3) u26 rfl sz22 (by decide) rfl rfl) ?_
  refine Xv rfl (Vl u22 rfl) ?_
  refine Xm ?_
  refine Xm ?_
  refine Xv rfl (v_indexAddr u22 sz3 (congrArg (fun A => some (Value.slice A l.length c)) hA0) rfl Zo rfl) ?_
  refine Xv rfl (v_load u3 rfl rfl (at_ro (.head _) trivial (by rw [Nat.mul_one]; exact hc0))) ?_
  refine Xv rfl (v_quoi (c := l[k].tdiv 12) rfl rfl (by decide) rfl (by omega)) ?_
  refine Xm ?_
  refine x_callv (v := Value.int .i64 (l[k].tdiv 12 % (1 + l[k] % 12))) rfl rfl rfl Tryz.func15 Zk rfl (fun w1 hw1 => c_Md _ _ w1 hq12 (by omega)) ?_
  have em3 := Int.emod_nonneg (l[k].tdiv 12) (show (1 + l[k] % 12 : Int) ≠ 0 by omega)
  have em4 := Int.emod_lt_of_pos (l[k].tdiv 12) (show (0 : Int) < 1 + l[k] % 12 by omega)
  refine Xv rfl (v_addi rfl rfl rfl Zo) ?_
  refine x_buildSliceL (cs := [Value.int .i64 (1 + l[k].tdiv 12 % (1 + l[k] % 12))]) rfl rfl rfl u22 sz3 zr3 rfl rfl rfl ?_
  intro p53
  refine x_append (e := 3) [(p53, Obj.cells [Value.int .i64 (1 + l[k].tdiv 12 % (1 + l[k] % 12))].toArray 3), (p40, Obj.cells [Value.int .i64 (1 + l[k] % 12)].toArray 3), (p7, Obj.cells [Value.int .i64 (10000 + f % 10000), Value.int .i64 (1 + d % 10000), rowV R' (k + 1 + 1), rowV S (k + 1)].toArray 26)] (l2 := rowO 3 R' ++ [(p6, Obj.cells #[Value.int .i64 0, Value.int .i64 0, Value.slice none 0 0, Value.slice none 0 0] 26)]) S (len := k + 1) (xs := (f % 50 :: madeS (l.take k)).map (Value.int .i64)) rfl rfl rfl rfl (by simp [List.append_assoc]; rfl) hS u22 ap3 rfl rfl (m := 1) (news := [Value.int .i64 (1 + l[k].tdiv 12 % (1 + l[k] % 12))]) (fun i hi => at_ownL (vs := [Value.int .i64 (1 + l[k].tdiv 12 % (1 + l[k] % 12))]) (.head _) (by rw [Nat.zero_add]; exact List.getElem?_eq_getElem hi)) rfl Zx (by omega) fun S' hS' => ?_
  refine Xv rfl (v_fieldAddr (off' := 3) u26 rfl sz22 (by decide) rfl rfl) ?_
  refine x_store (cs := [Value.int .i64 (10000 + f % 10000), Value.int .i64 (1 + d % 10000), rowV R' (k + 1 + 1), rowV S (k + 1)]) (off := 3) (e := 26) (l2 := rowO 3 S' ++ (rowO 3 R' ++ [(p6, Obj.cells #[Value.int .i64 0, Value.int .i64 0, Value.slice none 0 0, Value.slice none 0 0] 26)])) [(p53, Obj.cells [Value.int .i64 (1 + l[k].tdiv 12 % (1 + l[k] % 12))].toArray 3), (p40, Obj.cells [Value.int .i64 (1 + l[k] % 12)].toArray 3)] rfl rfl rfl (by simp [List.append_assoc]) sz22 rfl (by show 4 ≤ 4; decide) ?_
  refine Ze (b_norm (Zt (Zr ?_)))
  refine Xm ?_
  refine Xv rfl (v_addi rfl rfl rfl Zo) ?_
  refine Xa ?_
  refine Ze ?_
  exact l_norm (x := (R, S, k)) (μ := fun q : RowS × RowS × Nat => 3 - q.2.2) (R', S', k + 1) ⟨hk3, hkl2, by dsimp only; rw [madeL_snoc hkl2 hk3]; simpa using hR', by dsimp only; rw [madeS_snoc hkl2 hk3]; simpa using hS'⟩ (by simp only; omega) Zu (fun _ h => h.less (((List.Sublist.refl _).cons _).cons _) (fun _ h => h))
 simp only [hb28, hb27, hb24, Qz, ne_eq] at hc28
 have hall : k = l.length ∨ k = 3 := by omega
 obtain ⟨a1, a2⟩ := made_all hall
 rw [a1] at hR
 rw [a2] at hS
 refine w_exit ?_
 refine t_exit ?_
 refine t_exit ?_
 refine b_hit ?_
 refine Zt (Zs (Zr ?_))
 refine Xv rfl (v_load_blk (e := 26) (fz := (0, 0)) (cs := [Value.int .i64 (10000 + f % 10000), Value.int .i64 (1 + d % 10000), rowV R (k + 1), rowV S (k + 1)].toArray) u26 rfl rfl (.head _) (by exact sz26)) ?_
 refine x_store0 (cs := #[Value.int .i64 0, Value.int .i64 0, Value.slice none 0 0, Value.slice none 0 0]) (e := 26) (l2 := []) ((p7, Obj.cells [Value.int .i64 (10000 + f % 10000), Value.int .i64 (1 + d % 10000), rowV R (k + 1), rowV S (k + 1)].toArray 26) :: (rowO 3 S ++ rowO 3 R)) rfl rfl rfl (by simp [List.append_assoc]) sz26 rfl rfl ?_
 refine Ze (Zt (w_ret ?_))
 refine retc rfl rfl (List.mem_append_right _ (.head _)) u26 rfl sz26 (fun w' hm => ⟨_, _, rfl, hm.base (by simp), ?_⟩)
 have hk1 : k + 1 = (0 :: madeL l).length := by have := hR.1; simpa using this.symm
 have hk2 : k + 1 = (f % 50 :: madeS l).length := by have := hS.1; simpa using this.symm
 have hmr := made_right f d l
 have hin := made_in f d l
 exact ⟨by unfold in64; show -9223372036854775808 ≤ 10000 + f % 10000 ∧ 10000 + f % 10000 ≤ 9223372036854775807; omega, by unfold in64; show -9223372036854775808 ≤ 1 + d % 10000 ∧ 1 + d % 10000 ≤ 9223372036854775807; omega,
  rowI_rd (e := 3) hR hk1 hin.1 hm (fun p hp => by simp; exact .inr (.inr (.inl hp))) (fun p hp => hm.newer (by simp) (by simp; exact .inr (.inr (.inl hp)))),
  rowI_rd (e := 3) hS hk2 hin.2 hm (fun p hp => by simp; exact .inr (.inl hp)) (fun p hp => hm.newer (by simp) (by simp; exact .inr (.inl hp)))⟩
open Go.RowKit Go.PK
theorem c_Split (s sep : ByteArray) (w : World) (hs : s.size ≤ 2000000000) (h1 : 1 ≤ sep.size) (hL : LD w) :
  Calls Tryz.prog 70 #[.string s, .string sep] w fun e w' => ∃ v, e = .returned v ∧ Later w w' ∧ sliceRd tyStr (fun b => w.heap.size ≤ b) w' v (splitG s sep) := by
 obtain ⟨m, hm⟩ := hL.cel
 refine (Tryz.strings_Split s sep m w (by omega) hm h1).mono fun e w' ⟨h3, h2⟩ => ⟨_, h3, ?_, ?_⟩
 ·rw [h2]; exact later_alloc w _
 have h2 : w' = w.alloc (.cells ((splitG s sep).map Value.string).toArray 9) := h2
 subst h2
 have hl := splitG_len (s := s) h1
 rw [← hl]
 have hg : (w.alloc (.cells ((splitG s sep).map Value.string).toArray 9)).heap[w.heap.size]? = some (.cells ((splitG s sep).map Value.string).toArray 9 (0, 0)) := alloc_at w _
 have hcn : (splitG s sep).length ≤ 9223372036854775807 := by rw [hl]; have := Lib.countB_le sep h1 s.size s (Nat.le_refl _); omega
 refine ⟨_, _, rfl, Nat.le_refl _, hcn, fun h => ⟨w.heap.size, 0, rfl, Nat.le_refl _, heap_lt hg, fun j hj => ⟨_, fun i hi => ?_, rfl, (by have h4 := splitB_size sep _ s _ (List.getElem_mem hj); have h4 : (splitG s sep)[j].size ≤ s.size := h4; unfold okS; omega)⟩⟩⟩
 have hi : i = 0 := by simpa using hi
 subst hi
 rw [Nat.zero_add, Nat.add_zero, show tyStr.size = 1 from rfl, Nat.mul_one, cell_of_row _ w.heap.size _ _ 9 (0, 0) hg, List.getElem?_toArray]
 simp [hj]
theorem splitG_sz {s sep : ByteArray} : ∀ x ∈ splitG s sep, x.size ≤ s.size := splitB_size sep _ s
theorem splitG_le {s sep : ByteArray} (h1 : 1 ≤ sep.size) : (splitG s sep).length ≤ s.size + 1 := by
 rw [splitG_len h1]; have := Lib.countB_le sep h1 s.size s (Nat.le_refl _); omega
theorem ap85 : (Tryz.prog.info? 85).map (fun j => (j.zero, j.size, j.bytes)) = some (some (.agg #[.int .i64 0, .int .i64 0, .bool false, .int .i64 0]), 4, 32) := by kernel_rfl
theorem c_nums (s : ByteArray) (w : World) (hs : s.size ≤ 2000000) (hL : LD w) :
  Calls Tryz.prog 39 #[.string s] w fun e w' => ∃ v, e = .returned (.tuple #[v, .bool (numsOf s).2]) ∧ Later w w' ∧ sliceRd tyI (fun b => w.heap.size ≤ b) w' v (numsOf s).1 := by
 have hxle := splitG_le (s := s) (sep := slash) (by decide)
 refine enter (vs := [.string s]) Tryz.func39 rfl Tryz.ntmps39 rfl ?_
 refine Zs (Zr ?_)
 refine Xa ?_
 refine Xa ?_
 refine Ze (Zt (Zs (Zr ?_)))
 refine Xa ?_
 refine Ze (Zt (Zs (Zs (Zr ?_))))
 refine Xm ?_
 refine x_call (R := fun v wa wb => sliceRd tyStr (fun b => wa.heap.size ≤ b) wb v (splitG s slash)) rfl rfl rfl Tryz.func70 Zk rfl (fun w1 hw1 => c_Split s slash w1 (by omega) (by decide) (hL.later (hw1.base (by simp)))) fun v10 wa10 wb10 hm10 hl10 hR10 => ?_
 obtain ⟨xA, xc, rfl, hxl, hxm, _⟩ := id hR10
 refine Xv rfl (v_len_slice u55 rfl) ?_
 refine Xm ?_
 refine Ze (Zt (w_block ?_))
 refine w_loop (σ := RowS × Nat) (fun x => x.2 ≤ (splitG s slash).length ∧ (∀ j (h : j < (splitG s slash).length), j < x.2 → numOKb (splitG s slash)[j] = true) ∧ rowOK 1 x.1 x.2 ((((splitG s slash).take x.2).map atoiV).map (Value.int .i64))) (fun x => [(0, Value.string s), (4, rowV x.1 x.2), (10, Value.slice xA (splitG s slash).length xc), (11, Value.int .i64 ((splitG s slash).length : Nat)), (12, Value.int .i64 (x.2 : Nat))]) (fun x => rowO 3 x.1) (fun x => [(wb10, notOwn []), (w, fun _ => True)]) (fun x => (splitG s slash).length - x.2) ((none, 0)) (⟨Nat.zero_le _, fun j h1 h2 => absurd h2 (Nat.not_lt_zero _), rowOK_nil⟩) (l_start Zu (fun _ h => h)) ?_
 rintro ⟨r, k⟩ ⟨hk, hall, hr⟩
 refine w_state ([(0, Value.string s), (4, rowV r k), (10, Value.slice xA (splitG s slash).length xc), (11, Value.int .i64 ((splitG s slash).length : Nat)), (12, Value.int .i64 (k : Nat))]) (rowO 3 r) ([(wb10, notOwn []), (w, fun _ => True)]) ?_
 dsimp only at hk hall hr
 refine Zs (Zr ?_)
 refine Xb rfl (v_lss rfl rfl) fun b13 hb13 => ?_
 refine Ze (Zt (Zs ?_))
 refine w_cond rfl (fun hc13 => ?_) (fun hc13 => ?_)
 ·simp only [hb13, Qz, ne_eq] at hc13
  have hkl : k < (splitG s slash).length := by omega
  obtain ⟨b0, o0, hA0, hD0, hc0, hok0⟩ := s_at hR10 hkl
  have hsz := splitG_sz _ (List.getElem_mem hkl)
  obtain ⟨X, hX⟩ : ∃ X, X = (splitG s slash)[k] := ⟨_, rfl⟩
  refine w_skip (Zt (Zs (w_block (Zs (Zr ?_)))))
  refine Xv rfl (v_indexAddr u55 sz9 (congrArg (fun A => some (Value.slice A (splitG s slash).length xc)) hA0) rfl Zo rfl) ?_
  refine Xv rfl (v_load u9 rfl rfl (at_ro (.head _) (fun q hq => by cases hq) (by rw [Nat.mul_one]; exact hc0))) ?_
  refine Xa ?_
  refine Ze (Zt (Zs (Zr ?_)))
  refine Xm ?_
  refine x_call (R := fun v wa wb => ∃ n ev b, v = .tuple #[.int .i64 n, ev] ∧ isIface ev b ∧ (b = false → Lib.atoiAll (bl (splitG s slash)[k]) = .ok n) ∧ (b = true → ∀ v, Lib.atoiAll (bl (splitG s slash)[k]) ≠ .ok v)) rfl rfl rfl Tryz.func68 Zk rfl (fun w1 hw1 => (c_Atoi (splitG s slash)[k] w1 (by omega) (hL.later (hw1.base (by simp)))).mono fun e w2 ⟨n, ev, b, h1, h2, h3⟩ => ⟨_, h1, h2, n, ev, b, rfl, h3⟩) fun v18 wa18 wb18 hm18 hl18 hR18 => ?_
  obtain ⟨n, ev, b0, rfl, hi22, h1, h2⟩ := hR18
  refine Xm ?_
  refine Xv rfl (v_extract rfl rfl) ?_
  refine Xv rfl (v_extract rfl rfl) ?_
  refine Xa ?_
  refine Xa ?_
  refine Ze (Zt (Zs (Zs (Zr ?_))))
  refine Xm ?_
  refine Xb rfl (v_ine u112 rfl rfl hi22) fun b22 hb22 => ?_
  refine Xm ?_
  refine Xg ?_
  refine Xj rfl rfl rfl (fun hg0 => by subst hg0; (try simp only [Qy]); exact v_lss rfl rfl) fun b25 hb25 => ?_
  refine Xb rfl (v_or rfl rfl) fun b26 hb26 => ?_
  refine Xm ?_
  refine Xg ?_
  refine Xi rfl rfl rfl (fun hg0 => by subst hg0; (try simp only [Qy]); exact v_len_str u9 rfl) ?_
  refine Xj rfl rfl rfl (fun hg0 => by subst hg0; (try simp only [Qy]); exact v_gtr rfl rfl) fun b30 hb30 => ?_
  refine Xb rfl (v_or rfl rfl) fun b31 hb31 => ?_
  refine Xm ?_
  refine Xg ?_
  refine x_call_if [] rfl rfl rfl rfl rfl Tryz.func74 Zk (fun hg => by obtain ⟨hg0, _⟩ := hg; subst hg0; (try simp only [Qy]); refine ⟨_, rfl, ?_⟩; exact fun w1 hw1 => c_Itoa n w1 (by have g9 := hb31.symm; simp only [hb26, hb22, Bool.or_eq_false_iff] at g9; exact Lib.atoiAll_bounds (h1 g9.1.1)) (hL.later (hw1.base (by simp)))) ?_
  refine Xg ?_
  refine Xj rfl rfl rfl (fun hg0 => by subst hg0; (try simp only [Qy]); exact v_sneq rfl rfl) fun b36 hb36 => ?_
  refine Xb rfl (v_or rfl rfl) fun b37 hb37 => ?_
  refine Ze (Zt ?_)
  refine w_cond rfl (fun hc37 => ?_) (fun hc37 => ?_)
  ·have hno : numOKb (splitG s slash)[k] = false := by rw [num_case h1 h2, Bool.not_eq_false']; simpa only [hb37, hb36, hb31, hb30, hb26, hb25, hb22] using hc37
   refine Zs (Zr ?_)
   refine Xa ?_
   refine Xa ?_
   refine Ze (Zt (w_ret (t_ret (b_ret (t_ret (t_ret (b_ret (t_ret ?_))))))))
   refine ret2 rfl rfl rfl (fun w' hm => ⟨_, by rw [numsOf_no hkl hno], hm.base (by simp), by rw [numsOf_no hkl hno]; exact ⟨none, 0, rfl, Nat.le_refl _, Nat.zero_le _, fun h => absurd h (by decide)⟩⟩)
  have hyes : numOKb (splitG s slash)[k] = true := by rw [num_case h1 h2, Bool.not_eq_true']; simpa only [hb37, hb36, hb31, hb30, hb26, hb25, hb22] using hc37
  have hn0 : atoiV (splitG s slash)[k] = n := by
   have hc := hc37
   simp only [hb37, hb36, hb31, hb30, hb26, hb25, hb22, Bool.or_eq_false_iff] at hc
   exact (numOK_yes (h1 hc.1.1.1)).1
  refine w_skip (Zt (Zr ?_))
  refine Xm ?_
  refine Xm ?_
  refine x_buildSliceL (cs := [Value.int .i64 n]) rfl rfl rfl u22 sz3 zr3 rfl rfl rfl ?_
  intro p40
  refine x_append (e := 3) [(p40, Obj.cells [Value.int .i64 n].toArray 3)] (l2 := []) r (len := k) (xs := ((((splitG s slash).take k).map atoiV).map (Value.int .i64))) rfl rfl rfl rfl (by simp) hr u22 ap3 rfl rfl (m := 1) (news := [Value.int .i64 n]) (fun i hi => at_ownL (vs := [Value.int .i64 n]) (.head _) (by rw [Nat.zero_add]; exact List.getElem?_eq_getElem hi)) rfl Zx (by omega) fun r' hr' => ?_
  refine Xa ?_
  refine Ze (b_norm (Zt (Zr ?_)))
  refine Xv rfl (v_addi rfl rfl rfl Zo) ?_
  refine Xm ?_
  refine Ze ?_
  rw [List.append_nil]
  exact l_norm (x := (r, k)) (μ := fun q : RowS × Nat => (splitG s slash).length - q.2) (r', k + 1) ⟨hkl, fun j h hj => by rcases Nat.lt_succ_iff_lt_or_eq.1 hj with h3 | rfl; (· exact hall j h h3); exact hyes, by dsimp only; rw [List.take_succ_eq_append_getElem hkl, List.map_append, List.map_append, List.map_singleton, List.map_singleton, hn0]; exact hr'⟩ (by simp only; omega) Zu (fun w1 h => h.less (List.sublist_cons_self _ _) (fun s hs => List.mem_cons_of_mem _ hs))
 simp only [hb13, Qz, ne_eq] at hc13
 obtain rfl : k = (splitG s slash).length := by omega
 rw [List.take_length] at hr
 have hya := numsOf_yes (fun j hj => hall j hj hj)
 refine w_exit ?_
 refine t_exit ?_
 refine t_exit ?_
 refine b_hit ?_
 refine Zt (Zs (Zr ?_))
 refine Xm ?_
 refine Xm ?_
 refine Xv rfl (v_len_slice u22 rfl) ?_
 refine Xb rfl (v_leq rfl rfl) fun b46 hb46 => ?_
 refine Xa ?_
 refine Xa ?_
 refine Ze (Zt (w_ret ?_))
 refine ret2 rfl rfl rfl (fun w' hm => ⟨_, by rw [hya, hb46, show decide (((splitG s slash).length : Int) ≤ 4) = decide ((splitG s slash).length ≤ 4) from decide_eq_decide.2 (by omega)], hm.base (by simp), ?_⟩)
 rw [hya]
 exact rowI_rd (e := 3) hr (by simp) (fun d hd => by obtain ⟨y, _, rfl⟩ := List.mem_map.1 hd; exact atoiV_in y) hm (fun p hp => hp) (fun p hp => hm.newer (by simp) hp)
open Go.RowKit Go.PK
theorem c_cl1 (x : Ent) (p q : Nat) (i j : Int) (w : World) (h1 : w.cell? ⟨p, 0, none⟩ = some (.int .i64 i)) (h2 : w.cell? ⟨q, 0, none⟩ = some (.int .i64 j)) :
  Calls Tryz.prog 42 #[.agg #[.int .i64 x.fr, .int .i64 x.to, .bool x.sk, .int .i64 x.day], .pointer (some ⟨p, 0, none⟩), .pointer (some ⟨q, 0, none⟩)] w fun e w' => e = .returned (.bool (decide (i ≤ x.to) && decide (x.fr ≤ j))) ∧ Later w w' := by
 refine enter (vs := [.agg #[.int .i64 x.fr, .int .i64 x.to, .bool x.sk, .int .i64 x.day], .pointer (some ⟨p, 0, none⟩), .pointer (some ⟨q, 0, none⟩)]) Tryz.func42 rfl Tryz.ntmps42 rfl ?_
 refine Zs (Zr ?_)
 refine x_box rfl rfl rfl rfl ?_
 intro p3
 refine Xa ?_
 refine Ze (Zt (Zs (Zr ?_)))
 refine Xv rfl (v_load u3 rfl rfl (at_ro (.head _) trivial h1)) ?_
 refine Xv rfl (v_fieldAddr (off' := 1) u85 rfl sz3 (by decide) rfl rfl) ?_
 refine Xv rfl (v_load u3 rfl rfl (at_ownL (vs := [Value.int .i64 x.fr, Value.int .i64 x.to, Value.bool x.sk, Value.int .i64 x.day]) (.head _) rfl)) ?_
 refine Xb rfl (v_leq rfl rfl) fun b8 hb8 => ?_
 refine Xm ?_
 refine Xi rfl rfl rfl (fun hg0 => by subst hg0; (try simp only [Qy]); exact v_fieldAddr (off' := 0) u85 rfl sz3 (by decide) rfl rfl) ?_
 refine Xi rfl rfl rfl (fun hg0 => by subst hg0; (try simp only [Qy]); exact v_load u3 rfl rfl (at_ownL (vs := [Value.int .i64 x.fr, Value.int .i64 x.to, Value.bool x.sk, Value.int .i64 x.day]) (.head _) rfl)) ?_
 refine Xi rfl rfl rfl (fun hg0 => by subst hg0; (try simp only [Qy]); exact v_load u3 rfl rfl (at_ro (.head _) trivial h2)) ?_
 refine Xj rfl rfl rfl (fun hg0 => by subst hg0; (try simp only [Qy]); exact v_leq rfl rfl) fun b13 hb13 => ?_
 refine Xb rfl (v_and rfl rfl) fun b14 hb14 => ?_
 refine Xa ?_
 refine Ze (Zt (w_ret ?_))
 refine ret1 rfl rfl (fun w' hm => ⟨?_, hm.base (by simp)⟩)
 rw [hb14, hb13, hb8]
theorem c_cl2 (x : Ent) (q : Nat) (j : Int) (w : World) (h2 : w.cell? ⟨q, 0, none⟩ = some (.int .i64 j)) :
  Calls Tryz.prog 44 #[.agg #[.int .i64 x.fr, .int .i64 x.to, .bool x.sk, .int .i64 x.day], .pointer (some ⟨q, 0, none⟩)] w fun e w' => e = .returned (.bool (decide (j < x.fr))) ∧ Later w w' := by
 refine enter (vs := [.agg #[.int .i64 x.fr, .int .i64 x.to, .bool x.sk, .int .i64 x.day], .pointer (some ⟨q, 0, none⟩)]) Tryz.func44 rfl Tryz.ntmps44 rfl ?_
 refine Zs (Zr ?_)
 refine x_box rfl rfl rfl rfl ?_
 intro p2
 refine Xa ?_
 refine Ze (Zt (Zs (Zr ?_)))
 refine Xv rfl (v_fieldAddr (off' := 0) u85 rfl sz3 (by decide) rfl rfl) ?_
 refine Xv rfl (v_load u3 rfl rfl (at_ownL (vs := [Value.int .i64 x.fr, Value.int .i64 x.to, Value.bool x.sk, Value.int .i64 x.day]) (.head _) rfl)) ?_
 refine Xv rfl (v_load u3 rfl rfl (at_ro (.head _) trivial h2)) ?_
 refine Xb rfl (v_gtr rfl rfl) fun b7 hb7 => ?_
 refine Xa ?_
 refine Ze (Zt (w_ret ?_))
 refine ret1 rfl rfl (fun w' hm => ⟨?_, hm.base (by simp)⟩)
 rw [hb7]
theorem c_IF {v : Value} {es : List Ent} {D : Nat → Prop} {g : FuncId} {gf : Func} {cap : Array Value} (q : Ent → Bool) (w : World) (hxs : sliceRd tyEnt D w v es) (hg : Tryz.prog.funcs[g]? = some gf) (hgb : (!(gf.name == "runtime.NumGoroutine") && gf.body.isSome) = true) (hq : ∀ (x : Ent) w1, Later w w1 → Calls Tryz.prog g (#[.agg (entC x).toArray] ++ cap) w1 fun e w2 => e = .returned (.bool (q x)) ∧ Later w1 w2) :
  Calls Tryz.prog 76 #[v, .func (.func g) #[] cap] w fun e w' => e = .returned (.int .i64 (fidx q es)) ∧ Later w w' := by
 obtain ⟨A, cp, rfl, hlc, hmx, hA⟩ := id hxs
 refine enter (vs := [Value.slice A es.length cp, .func (.func g) #[] cap]) Tryz.func76 rfl Tryz.ntmps76 rfl ?_
 refine Zs (Zr ?_)
 refine Xa ?_
 refine Ze (Zt (Zs (Zs (Zr ?_))))
 refine Xm ?_
 refine Xv rfl (v_len_slice u59 rfl) ?_
 refine Xm ?_
 refine Ze (Zt (w_block ?_))
 refine w_loop (σ := Nat) (fun k => k ≤ es.length ∧ ∀ j (h : j < es.length), j < k → q es[j] = false) (fun k => [(0, Value.slice A es.length cp), (1, .func (.func g) #[] cap), (7, Value.int .i64 (es.length : Nat)), (8, Value.int .i64 (k : Nat))]) (fun k => []) (fun k => [(w, fun _ => True)]) (fun k => es.length - k) (0) (⟨Nat.zero_le _, by intros; omega⟩) (l_start Zu (fun _ h => h)) ?_
 rintro k ⟨hk, hno⟩
 refine w_state ([(0, Value.slice A es.length cp), (1, .func (.func g) #[] cap), (7, Value.int .i64 (es.length : Nat)), (8, Value.int .i64 (k : Nat))]) ([]) ([(w, fun _ => True)]) ?_
 refine Zs (Zr ?_)
 refine Xb rfl (v_lss rfl rfl) fun b9 hb9 => ?_
 refine Ze (Zt (Zs ?_))
 refine w_cond rfl (fun hc9 => ?_) (fun hc9 => ?_)
 ·simp only [hb9, Qz, ne_eq] at hc9
  have hkl : k < es.length := by omega
  obtain ⟨b0, o0, hA0, hD0, hc0, _⟩ := ent_at hxs hkl
  refine w_skip (Zt (Zs (w_block (Zs (Zr ?_)))))
  refine Xm ?_
  refine Xa ?_
  refine Ze (Zt (Zs (Zr ?_)))
  refine Xm ?_
  refine Xm ?_
  refine Xm ?_
  refine Xv rfl (v_indexAddr u59 sz85 (congrArg (fun A => some (Value.slice A es.length cp)) hA0) rfl Zo rfl) ?_
  refine Xv rfl (v_loadN (vs := entC es[k]) u85 rfl sz85 rfl (fun j hj => at_ro (.head _) trivial (hc0 j hj))) ?_
  refine x_clb rfl rfl rfl rfl hg hgb rfl (fun w1 hw1 => hq es[k] w1 (hw1.base (by simp))) fun b16 hb16 => ?_
  refine Ze (Zt ?_)
  refine w_cond rfl (fun hc16 => ?_) (fun hc16 => ?_)
  ·have hb : q es[k] = true := hb16.symm.trans hc16
   refine Zs (Zr ?_)
   refine Xm ?_
   refine Xa ?_
   refine Ze (Zt (w_ret (b_ret (t_ret (t_ret (b_ret (t_ret ?_)))))))
   refine ret1 rfl rfl (fun w' hm => ⟨?_, hm.base (by simp)⟩)
   rw [fidx_at hkl hb hno]
  have hb : q es[k] = false := hb16.symm.trans hc16
  refine w_skip (b_norm (Zt (Zr ?_)))
  refine Xv rfl (v_addi rfl rfl rfl Zo) ?_
  refine Xm ?_
  refine Ze ?_
  exact l_norm (k + 1) ⟨by omega, fun j h hjk => by rcases Nat.lt_succ_iff_lt_or_eq.1 hjk with h2 | rfl; (· exact hno j h h2); exact hb⟩ (by omega) Zu (fun _ h => h)
 simp only [hb9, Qz, ne_eq] at hc9
 refine w_exit ?_
 refine t_exit ?_
 refine t_exit ?_
 refine b_hit ?_
 refine Zt (Zs (Zr ?_))
 refine Xa ?_
 refine Ze (Zt (w_ret ?_))
 refine ret1 rfl rfl (fun w' hm => ⟨?_, hm.base (by simp)⟩)
 rw [fidx_none (fun j h => hno j h (by omega))]
theorem c_CF {v : Value} {es : List Ent} {D : Nat → Prop} {g : FuncId} {gf : Func} {cap : Array Value} (q : Ent → Bool) (w : World) (hxs : sliceRd tyEnt D w v es) (hg : Tryz.prog.funcs[g]? = some gf) (hgb : (!(gf.name == "runtime.NumGoroutine") && gf.body.isSome) = true) (hq : ∀ (x : Ent) w1, Later w w1 → Calls Tryz.prog g (#[.agg (entC x).toArray] ++ cap) w1 fun e w2 => e = .returned (.bool (q x)) ∧ Later w1 w2) :
  Calls Tryz.prog 41 #[v, .func (.func g) #[] cap] w fun e w' => e = .returned (.bool (es.any q)) ∧ Later w w' := by
 refine enter (vs := [v, .func (.func g) #[] cap]) Tryz.func41 rfl Tryz.ntmps41 rfl ?_
 refine Zs (Zr ?_)
 refine Xa ?_
 refine Ze (Zt (Zs (Zr ?_)))
 refine Xm ?_
 refine Xm ?_
 refine x_callv rfl rfl rfl Tryz.func76 Zk rfl (fun w1 hw1 => c_IF q w1 (hxs.keep (Kept.later (hw1.base (by simp)))) hg hgb (fun x w2 h2 => hq x w2 ((hw1.base (w0 := w) (by simp)).trans h2))) ?_
 refine Xb rfl (v_geq rfl rfl) fun b8 hb8 => ?_
 refine Xa ?_
 refine Ze (Zt (w_ret ?_))
 refine ret1 rfl rfl (fun w' hm => ⟨?_, hm.base (by simp)⟩)
 rw [hb8, Bool.eq_iff_iff.2 (decide_eq_true_iff.trans (fidx_nn _ es))]
theorem ov_n : (Tryz.f107.name == "runtime.NumGoroutine") = false := by kernel_rfl
theorem ov_b : Tryz.f107.body.isNone = true := by kernel_rfl
theorem ov_f : Extern.findNext Tryz.f107 = none := by kernel_rfl
theorem ov_e : Extern.find Tryz.f107 = some (Extern.SlicesOverlaps.overlaps #[59, 59] #[4]) := by kernel_rfl
set_option maxHeartbeats 4000000 in
theorem c_Insert {w : World} {l2 : List (Nat × Obj)} {ro : List Snap} {R : RowS} {pn : Nat} (es : List Ent) (i : Nat) (x : Ent) (hm : Mem w ((pn, Obj.cells (entC x).toArray 85 (0, 0)) :: (rowO 85 R ++ l2)) ro) (hR : rowOK 4 R es.length (entsC es)) (hi : i ≤ es.length) (hlen : es.length ≤ 1000000) :
  Calls Tryz.prog 77 #[rowV R es.length, .int .i64 (i : Nat), .slice (some ⟨pn, 0, none⟩) 1 1] w fun e w' => ∃ R', e = .returned (rowV R' (es.length + 1)) ∧ rowOK 4 R' (es.length + 1) (entsC (es.take i ++ x :: es.drop i)) ∧ Mem w' ((pn, Obj.cells (entC x).toArray 85 (0, 0)) :: (rowO 85 R' ++ l2)) ro := by
 have hE : (entC x).length = 4 := rfl
 have hRc : es.length ≤ rowC R := by
  cases R with
  | none => have := hR.2; simp only at this; omega
  | some r => exact hR.2.1
 refine enter_in hm (vs := [rowV R es.length, .int .i64 (i : Nat), .slice (some ⟨pn, 0, none⟩) 1 1]) Tryz.func77 rfl Tryz.ntmps77 rfl ?_
 refine Zs (Zr ?_)
 refine Xa ?_
 refine Ze (Zt (Zs (Zr ?_)))
 refine Xm ?_
 refine Xm ?_
 refine Xv rfl (v_scut_from (i := i) u59 sz85 rfl rfl hi hRc) ?_
 refine Ze (Zt (Zs (Zr ?_)))
 refine Xm ?_
 refine Xv rfl (v_len_slice u59 rfl) ?_
 refine Xa ?_
 refine Ze (Zt (Zs (Zs (Zr ?_))))
 refine Xm ?_
 refine Xb rfl (v_eql rfl rfl) fun b16 hb16 => ?_
 refine Ze (Zt ?_)
 refine w_cond rfl (fun hc16 => ?_) (fun hc16 => ?_)
 ·simp only [hb16, Qz, ne_eq] at hc16
  omega
 skip
 refine w_skip (Zt (Zs (Zr ?_)))
 refine Xm ?_
 refine Xv rfl (v_len_slice u59 rfl) ?_
 refine Xa ?_
 refine Ze (Zt (Zs (Zs (Zr ?_))))
 refine Xm ?_
 refine Xm ?_
 refine Xb rfl (v_eql rfl rfl) fun b22 hb22 => ?_
 refine Ze (Zt ?_)
 refine w_cond rfl (fun hc22 => ?_) (fun hc22 => ?_)
 ·simp only [hb22, Qz, ne_eq] at hc22
  obtain rfl : i = es.length := by omega
  refine Zs (Zr ?_)
  refine Xm ?_
  refine Xm ?_
  refine x_append (e := 85) [(pn, Obj.cells (entC x).toArray 85 (0, 0))] (l2 := l2) R (len := es.length) (xs := entsC es) rfl rfl rfl rfl rfl hR u59 ap85 rfl rfl (m := 1) (news := entC x) (fun j hj => at_ownL (vs := entC x) (.head _) (by rw [Nat.zero_add]; exact List.getElem?_eq_getElem hj)) rfl Zx (by omega) fun R' hR' => ?_
  refine Xa ?_
  refine Ze (Zt (w_ret (t_ret ?_)))
  refine ret1 rfl rfl (fun w' hm => ⟨R', rfl, ?_, by simpa using hm⟩)
  rw [List.take_length, List.drop_length, entsC_app]
  exact hR'
 simp only [hb22, Qz, ne_eq] at hc22
 have hil : i < es.length := by omega
 obtain ⟨b0, cs0, cp0, rfl⟩ : ∃ b0 cs0 cp0, R = some (b0, cs0, cp0) := by
  cases R with
  | none => have := hR.2; simp only at this; omega
  | some r => obtain ⟨a, b, c⟩ := r; exact ⟨a, b, c, rfl⟩
 obtain ⟨k1, k2, k3, k4, k5⟩ := hR
 dsimp only at k2 k3 k4 k5
 have hcap : es.length ≤ cp0 := k2
 have hes := entsC_len es
 refine w_skip (Zt (Zs (Zs (Zr ?_))))
 refine Xm ?_
 refine Xm ?_
 refine Xv rfl (v_addi rfl rfl rfl Zo) ?_
 refine Xm ?_
 refine Xv rfl (v_cap u59 rfl) ?_
 refine Xb rfl (v_gtr rfl rfl) fun b31 hb31 => ?_
 refine Ze (Zt ?_)
 refine w_cond rfl (fun hc31 => ?_) (fun hc31 => ?_)
 ·simp only [hb31, Qz, ne_eq] at hc31
  have h31 : cp0 < es.length + 1 := by have h : ((cp0 : Nat) : Int) < (es.length : Nat) + (1 : Nat) := hc31; omega
  refine Zs (Zr ?_)
  refine Xm ?_
  refine Xm ?_
  refine Xv rfl (v_scut_to (j := i) u59 sz85 rfl rfl (by omega)) ?_
  refine Xm ?_
  refine Xm ?_
  refine Xv rfl (v_addi rfl rfl rfl Zo) ?_
  refine Xm ?_
  refine Xv rfl (v_subi (c := ((es.length + 1 - i : Nat) : Int)) rfl rfl (by omega) (by omega)) ?_
  have hgt := fun (k : Nat) (hk : k ≤ es.length) (j : Nat) (hj : j < (entsC (es.drop k)).length) => ents_get k5 (by omega) hk hj
  refine x_append_zeros (e := 85) (m := es.length + 1 - i) (n0 := i) (olds := entsC (es.take i)) rfl rfl rfl rfl (fun h => by cases h) (by omega) (show cp0 < _ by omega) (fun w1 hw1 a ha j u hu => ?_) (by rw [entsC_len, List.length_take, Nat.min_eq_left hi]) u59 u3 ap85 rfl Zx (by omega) ?_
  ·cases ha
   have hj : j < (entsC (es.take i)).length := (List.getElem?_eq_some_iff.1 hu).1
   rw [entsC_len, List.length_take, Nat.min_eq_left hi] at hj
   rw [← ents_at k5 hi, List.getElem?_take_of_lt hj] at hu
   rw [mk_add]
   exact at_ownL (vs := cs0) (.tail _ (.head _)) (by rw [Nat.zero_add]; exact hu) w1 hw1
  intro b1 cs1 cp1 g1 g2 g3 g4
  refine Xa ?_
  refine Ze (Zt (Zs (Zr ?_)))
  refine Xm ?_
  refine Xm ?_
  refine Xv rfl (v_scut_fromB (i := i) u59 sz85 rfl rfl (by omega) (by omega) (by omega)) ?_
  refine Xm ?_
  refine x_copy (e := 85) (size := 4) (m := 1) (cs := cs1) (news := entC x) (te := 85) [] rfl rfl rfl rfl rfl u59 sz85 (Nat.min_eq_left (by omega)) rfl (fun j hj => at_ownL (vs := entC x) (.tail _ (.head _)) (by rw [Nat.zero_add]; exact List.getElem?_eq_getElem hj)) rfl (by show 0 + i * 4 + 4 ≤ _; omega) ?_
  refine Ze (Zt (Zs ?_))
  refine rg_draw 8 [(true, 0), (true, 1), (true, 2), (true, 3), (true, 4), (true, 5), (true, 6), (true, 7)] Zk Zk ?_
  refine Xm ?_
  refine Xm ?_
  refine Xm ?_
  refine Xv rfl (v_addi rfl rfl rfl Zo) ?_
  refine Xv rfl (v_scut_fromB (i := i + 1) u59 sz85 rfl rfl (by omega) (by omega) (by omega)) ?_
  refine Xm ?_
  refine Xm ?_
  refine Xv rfl (v_scut_fromB (i := i) u59 sz85 rfl rfl (by omega) (by omega) (by omega)) ?_
  refine x_copy (e := 85) (size := 4) (m := es.length - i) (cs := cs1.take (0 + i * 4) ++ entC x ++ cs1.drop (0 + i * 4 + (entC x).length)) (news := entsC (es.drop i)) (te := 85) [] rfl rfl rfl rfl rfl u59 sz85 (by show min _ _ = _; omega) (by rw [entsC_len, List.length_drop]) (fun j hj => at_ownL (vs := cs0) (.tail _ (.tail _ (.head _))) (by rw [Nat.zero_add]; exact hgt i hi j hj)) (entsC_one _) (by rw [entsC_len, List.length_drop]; simp only [List.length_append, List.length_take, List.length_drop]; show 0 + (i + 1) * 4 + _ ≤ _ + 4 + _; omega) ?_
  refine Ze (Zt (Zs (Zr ?_)))
  refine Xm ?_
  refine Xa ?_
  refine Ze (Zt (w_ret (t_ret ?_)))
  have hdl : (entsC (es.drop i)).length = (es.length - i) * 4 := by rw [entsC_len, List.length_drop]
  have hp2 := put_two (B := entC x) (C := entsC (es.drop i)) g4 (by rw [entsC_len, List.length_take, Nat.min_eq_left hi]) (by rw [hdl]; omega)
  rw [Nat.zero_add, Nat.zero_add, show (i + 1) * 4 = i * 4 + (entC x).length by omega]
  refine ret1 rfl rfl (fun w' hm => ?_)
  generalize hZ : (List.take (i * 4 + (entC x).length) (List.take (i * 4) cs1 ++ entC x ++ List.drop (i * 4 + (entC x).length) cs1) ++ entsC (es.drop i) ++ List.drop (i * 4 + (entC x).length + (entsC (es.drop i)).length) (List.take (i * 4) cs1 ++ entC x ++ List.drop (i * 4 + (entC x).length) cs1)) = Z at hm hp2
  have hq : Mem w' ((pn, Obj.cells (entC x).toArray 85 (0, 0)) :: ((b1, Obj.cells Z.toArray 85 (0, 0)) :: l2)) ro := (hm.less (own' := (b1, Obj.cells Z.toArray 85 (0, 0)) :: ((pn, Obj.cells (entC x).toArray 85 (0, 0)) :: l2)) (((List.sublist_cons_self _ _).cons_cons _).cons_cons _) (fun _ h => h)).perm (List.Perm.swap _ _ _)
  refine ⟨some (b1, Z, cp1), by rw [show i + (es.length + 1 - i) = es.length + 1 by omega]; rfl, ⟨?_, by show es.length + 1 ≤ cp1; omega, g2, by show Z.length = _; rw [hp2.1, g3], ?_⟩, hq⟩
  ·rw [entsC_len, List.length_append, List.length_cons, List.length_take, List.length_drop]; omega
  have e2 := hp2.2
  rw [show i * 4 + (entC x).length + (entsC (es.drop i)).length = (es.length + 1) * 4 by rw [hdl]; omega] at e2
  rw [entsC_app]
  exact e2
 simp only [hb31, Qz, ne_eq] at hc31
 have h31 : es.length + 1 ≤ cp0 := by have h : ¬((cp0 : Nat) : Int) < (es.length : Nat) + (1 : Nat) := hc31; omega
 refine w_skip (Zt (Zs (Zr ?_)))
 refine Xm ?_
 refine Xm ?_
 refine Xm ?_
 refine Xv rfl (v_addi rfl rfl rfl Zo) ?_
 refine Xv rfl (v_scut_to (j := es.length + 1) u59 sz85 rfl (congrArg (fun z : Int => some (Value.int .i64 z)) (by omega)) (by exact h31)) ?_
 refine Xa ?_
 refine Ze (Zt (Zs (Zs (Zr ?_))))
 refine Xm ?_
 refine Xm ?_
 refine Xm ?_
 refine Xm ?_
 refine Xv rfl (v_addi rfl rfl rfl Zo) ?_
 refine Xv rfl (v_scut_fromB (b := b0) (o := 0) (len := es.length + 1) (cap := cp0) (i := i + 1) u59 sz85 rfl rfl (by omega) (by omega) (by omega)) ?_
 refine Xb rfl (v_overlaps (na := pn) (nb := b0) (ca1 := entC x) (cb1 := cs0) Tryz.func107 ov_n ov_b ov_f ov_e u59 sz85 rfl rfl (.head _) (.tail _ (.head _)) (fun w1 hw1 => by have h := hw1.own_nd; simp only [List.map_cons, List.nodup_cons, List.mem_cons, rowO, List.cons_append] at h; exact fun e => h.1 (.inl e)) (by omega)) fun b67 hb67 => ?_
 subst hb67
 refine Xb rfl (v_not rfl) fun b68 hb68 => ?_
 refine Ze (Zt ?_)
 refine w_cond rfl (fun hc68 => ?_) (fun hc68 => ?_)
 ·skip
  refine Zs ?_
  refine rg_draw 8 [(true, 0), (true, 1), (true, 2), (true, 3), (true, 4), (true, 5), (true, 6), (true, 7)] Zk Zk ?_
  refine Xm ?_
  refine Xm ?_
  refine Xm ?_
  refine Xv rfl (v_addi rfl rfl rfl Zo) ?_
  refine Xv rfl (v_scut_fromB (b := b0) (o := 0) (len := es.length + 1) (cap := cp0) (i := i + 1) u59 sz85 rfl rfl (by omega) (by omega) (by omega)) ?_
  refine Xm ?_
  refine Xm ?_
  refine Xv rfl (v_scut_fromB (b := b0) (o := 0) (len := es.length + 1) (cap := cp0) (i := i) u59 sz85 rfl rfl (by omega) (by omega) (by omega)) ?_
  have hgt := fun (k : Nat) (hk : k ≤ es.length) (j : Nat) (hj : j < (entsC (es.drop k)).length) => ents_get k5 (by omega) hk hj
  refine x_copy (e := 85) (size := 4) (m := es.length - i) (cs := cs0) (news := entsC (es.drop i)) (te := 85) [(pn, Obj.cells (entC x).toArray 85 (0, 0))] (l2 := l2) rfl rfl rfl rfl rfl u59 sz85 (by show min _ _ = _; omega) (by rw [entsC_len, List.length_drop]) (fun j hj => at_ownL (vs := cs0) (.tail _ (.head _)) (by rw [Nat.zero_add]; exact hgt i hi j hj)) (entsC_one _) (by rw [entsC_len, List.length_drop]; omega) ?_
  refine Ze (Zt (Zs (Zr ?_)))
  refine Xm ?_
  refine Xm ?_
  refine Xv rfl (v_scut_fromB (b := b0) (o := 0) (len := es.length + 1) (cap := cp0) (i := i) u59 sz85 rfl rfl (by omega) (by omega) (by omega)) ?_
  refine Xm ?_
  refine x_copy (e := 85) (size := 4) (m := 1) (cs := cs0.take (0 + (i + 1) * 4) ++ entsC (es.drop i) ++ cs0.drop (0 + (i + 1) * 4 + (entsC (es.drop i)).length)) (news := entC x) (te := 85) [(pn, Obj.cells (entC x).toArray 85 (0, 0))] (l2 := l2) rfl rfl rfl rfl rfl u59 sz85 (Nat.min_eq_left (by omega)) rfl (fun j hj => at_ownL (vs := entC x) (.head _) (by rw [Nat.zero_add]; exact List.getElem?_eq_getElem hj)) rfl (by rw [entsC_len, List.length_drop]; simp only [List.length_append, List.length_take, List.length_drop, entsC_len]; omega) ?_
  refine Ze (Zt (Zs (Zr ?_)))
  refine Xm ?_
  refine Xa ?_
  refine Ze (Zt (w_ret (t_ret ?_)))
  have hdl : (entsC (es.drop i)).length = (es.length - i) * 4 := by rw [entsC_len, List.length_drop]
  have hp2 := put_back (B := entC x) (C := entsC (es.drop i)) (ents_at k5 hi) (by rw [entsC_len, List.length_take, Nat.min_eq_left hi]) (by rw [hdl]; omega)
  rw [Nat.zero_add, Nat.zero_add, show (i + 1) * 4 = i * 4 + (entC x).length by omega]
  refine ret1 rfl rfl (fun w' hm => ?_)
  generalize hZ : (List.take (i * 4) (List.take (i * 4 + (entC x).length) cs0 ++ entsC (es.drop i) ++ List.drop (i * 4 + (entC x).length + (entsC (es.drop i)).length) cs0) ++ entC x ++ List.drop (i * 4 + (entC x).length) (List.take (i * 4 + (entC x).length) cs0 ++ entsC (es.drop i) ++ List.drop (i * 4 + (entC x).length + (entsC (es.drop i)).length) cs0)) = Z at hm hp2
  refine ⟨some (b0, Z, cp0), rfl, ⟨?_, h31, k3, by show Z.length = _; rw [hp2.1, k4], ?_⟩, hm⟩
  ·rw [entsC_len, List.length_append, List.length_cons, List.length_take, List.length_drop]; omega
  have e2 := hp2.2
  rw [show i * 4 + (entC x).length + (entsC (es.drop i)).length = (es.length + 1) * 4 by rw [hdl]; omega] at e2
  rw [entsC_app]
  exact e2
 simp [hb68] at hc68
open Go.RowKit Go.PK
theorem c_ins {w : World} {l2 : List (Nat × Obj)} {ro : List Snap} {R : RowS} (es : List Ent) (x : Ent) (pq : Nat) (hm : Mem w (rowO 85 R ++ l2) ro) (hq : (pq, Obj.cells [Value.int .i64 x.to].toArray 3 (0, 0)) ∈ l2) (hR : rowOK 4 R es.length (entsC es)) (hin : ∀ y ∈ es, entIn y) (hlen : es.length ≤ 1000000) :
  Calls Tryz.prog 43 #[rowV R es.length, .agg #[.int .i64 x.fr, .int .i64 x.to, .bool x.sk, .int .i64 x.day], .func (.func 44) #[] #[.pointer (some ⟨pq, 0, none⟩)]] w fun e w' => ∃ R', e = .returned (rowV R' (es.length + 1)) ∧ rowOK 4 R' (es.length + 1) (entsC (insE es x)) ∧ Mem w' (rowO 85 R' ++ l2) ro := by
 refine enter_in hm (vs := [rowV R es.length, .agg #[.int .i64 x.fr, .int .i64 x.to, .bool x.sk, .int .i64 x.day], .func (.func 44) #[] #[.pointer (some ⟨pq, 0, none⟩)]]) Tryz.func43 rfl Tryz.ntmps43 rfl ?_
 refine Zs (Zr ?_)
 refine x_box rfl rfl rfl rfl ?_
 intro p4
 refine Xa ?_
 refine Ze (Zt (Zs (Zr ?_)))
 refine Xm ?_
 refine Xm ?_
 refine x_callv (v := Value.int .i64 (fidx (fun y : Ent => decide (x.to < y.fr)) es)) rfl rfl rfl Tryz.func76 Zk rfl (fun w1 hw1 => c_IF (fun y : Ent => decide (x.to < y.fr)) w1 (ents_rd (D := fun _ => True) hR rfl hin hw1 (fun p hp => List.mem_cons_of_mem _ (List.mem_append_left _ hp)) (fun _ _ => trivial)) Tryz.func44 Zk (fun x2 w2 h2 => c_cl2 x2 pq x.to w2 ((h2.cell (p := ⟨pq, 0, none⟩) (cell_lt (hw1.cell_own (List.mem_cons_of_mem _ (List.mem_append_right _ hq)) 0))).trans (hw1.cell_own (List.mem_cons_of_mem _ (List.mem_append_right _ hq)) 0)))) ?_
 rw [insI_idx]
 refine Xa ?_
 refine Ze (Zt (Zs (Zs (Zr ?_))))
 refine Xm ?_
 refine Xb rfl (v_lss rfl rfl) fun b12 hb12 => ?_
 refine Ze (Zt ?_)
 refine w_cond rfl (fun hc12 => ?_) (fun hc12 => ?_)
 ·simp only [hb12, Qz, ne_eq] at hc12
  have hno : ¬insI es x.to < es.length := fun h => by rw [if_pos h] at hc12; omega
  have hie : insI es x.to = es.length := by have := insI_le es x.to; omega
  refine Zr ?_
  refine Xm ?_
  refine Xv (v := Value.int .i64 ((insI es x.to : Nat) : Int)) rfl (by rw [hie]; exact v_len_slice u59 rfl) ?_
  refine Xa ?_
  refine Ze (Zt (Zs (Zr ?_)))
  refine Xm ?_
  refine Xm ?_
  refine Xv rfl (v_load_blk (e := 85) (fz := (0, 0)) (cs := (entC x).toArray) u85 rfl rfl (.head _) (by exact sz85)) ?_
  refine x_buildSliceL (cs := entC x) rfl rfl rfl u59 sz85 zr85 rfl rfl rfl ?_
  intro p18
  refine x_mem (own' := (p18, Obj.cells (entC x).toArray 85 (0, 0)) :: (rowO 85 R ++ ((p4, Obj.cells (entC x).toArray 85 (0, 0)) :: l2))) (fun _ h => h.perm (List.Perm.cons _ List.perm_middle.symm)) ?_
  refine x_turnV (fst := #[]) (cap := #[]) (fun R' : RowS => rowV R' (es.length + 1)) (fun R' => rowOK 4 R' (es.length + 1) (entsC (insE es x))) (fun R' => (p18, Obj.cells (entC x).toArray 85 (0, 0)) :: (rowO 85 R' ++ ((p4, Obj.cells (entC x).toArray 85 (0, 0)) :: l2))) rfl rfl rfl Tryz.func77 Zk rfl (fun w1 hw1 => by
   have h := c_Insert es (insI es x.to) x hw1 hR (insI_le _ _) hlen
   simpa [insE] using h) ?_
  intro R' hR'
  refine Xa ?_
  refine Ze (Zt (w_ret ?_))
  refine ret1 rfl rfl (fun w' hm => ⟨R', rfl, hR', hm.less (((List.Sublist.refl _).append (List.sublist_cons_self _ _)).cons _) (fun _ h => h)⟩)
 simp only [hb12, Qz, ne_eq] at hc12
 have hyes : insI es x.to < es.length := by
  by_cases h : insI es x.to < es.length
  ·exact h
  rw [if_neg h] at hc12; omega
 rw [if_pos hyes]
 refine w_skip (Zt (Zs (Zr ?_)))
 refine Xm ?_
 refine Xm ?_
 refine Xv rfl (v_load_blk (e := 85) (fz := (0, 0)) (cs := (entC x).toArray) u85 rfl rfl (.head _) (by exact sz85)) ?_
 refine x_buildSliceL (cs := entC x) rfl rfl rfl u59 sz85 zr85 rfl rfl rfl ?_
 intro p18
 refine x_mem (own' := (p18, Obj.cells (entC x).toArray 85 (0, 0)) :: (rowO 85 R ++ ((p4, Obj.cells (entC x).toArray 85 (0, 0)) :: l2))) (fun _ h => h.perm (List.Perm.cons _ List.perm_middle.symm)) ?_
 refine x_turnV (fst := #[]) (cap := #[]) (fun R' : RowS => rowV R' (es.length + 1)) (fun R' => rowOK 4 R' (es.length + 1) (entsC (insE es x))) (fun R' => (p18, Obj.cells (entC x).toArray 85 (0, 0)) :: (rowO 85 R' ++ ((p4, Obj.cells (entC x).toArray 85 (0, 0)) :: l2))) rfl rfl rfl Tryz.func77 Zk rfl (fun w1 hw1 => by
  have h := c_Insert es (insI es x.to) x hw1 hR (insI_le _ _) hlen
  simpa [insE] using h) ?_
 intro R' hR'
 refine Xa ?_
 refine Ze (Zt (w_ret ?_))
 refine ret1 rfl rfl (fun w' hm => ⟨R', rfl, hR', hm.less (((List.Sublist.refl _).append (List.sublist_cons_self _ _)).cons _) (fun _ h => h)⟩)
open Go.RowKit Go.PK
theorem insE_len (es : List Ent) (x : Ent) : (insE es x).length = es.length + 1 := by
 unfold insE; rw [List.length_append, List.length_cons, List.length_take, List.length_drop]; have := insI_le es x.to; omega
set_option maxHeartbeats 4000000 in
theorem c_Take {w w0 : World} {l2 : List (Nat × Obj)} {ro : List Snap} {R r1 r2 : RowS} {bs : Nat} (p : Pat) (es : List Ent) (text : ByteArray) (day : Int) (hm : Mem w ((bs, Obj.cells (serC p r1 r2 R es.length).toArray 61 (0, 0)) :: (rowO 85 R ++ (rowO 3 r1 ++ (rowO 3 r2 ++ l2)))) ro) (h0 : (w0, fun _ => True) ∈ ro) (hL : LD w0) (hS : SerOK p es r1 r2 R) (hts : text.size ≤ 2000000) (hd : in64 day) (hlen : es.length ≤ 1000000) :
  Calls Tryz.prog 13 #[.pointer (some ⟨bs, 0, none⟩), .string text, .int .i64 day] w fun e w' => ∃ R', e = .returned (.int .i64 (takeQ p es text day).2) ∧ rowOK 4 R' (takeQ p es text day).1.length (entsC (takeQ p es text day).1) ∧ Mem w' ((bs, Obj.cells (serC p r1 r2 R' (takeQ p es text day).1.length).toArray 61 (0, 0)) :: (rowO 85 R' ++ (rowO 3 r1 ++ (rowO 3 r2 ++ l2)))) ro := by
 refine enter_in hm (vs := [.pointer (some ⟨bs, 0, none⟩), .string text, .int .i64 day]) Tryz.func13 rfl Tryz.ntmps13 rfl ?_
 refine Zs (Zr ?_)
 refine Xa ?_
 refine Ze (Zt (Zs (Zs (Zr ?_))))
 refine Xm ?_
 refine Xb rfl (v_pnil (o := some ⟨bs, 0, none⟩) u28 rfl rfl) fun b19 hb19 => ?_
 refine Ze (Zt ?_)
 refine w_cond rfl (fun hc19 => ?_) (fun hc19 => ?_)
 ·simp [hb19] at hc19
 skip
 refine w_skip (Zt (Zs (Zr ?_)))
 refine Xm ?_
 refine x_callv (v := .tuple #[.string (tkR text), .bool (tkS text)]) rfl rfl rfl Tryz.func37 Zk rfl (fun w1 hw1 => c_CutPre text ⟨#[120]⟩ w1) ?_
 refine Xm ?_
 refine Xv rfl (v_extract rfl rfl) ?_
 refine Xv (v := Value.bool (tkS text)) rfl (v_extract rfl rfl) ?_
 refine Xa ?_
 refine Xa ?_
 refine Ze (Zt (Zs (Zr ?_)))
 refine Xm ?_
 refine x_callv (v := .tuple #[.string (tkA text), .string (cutG (tkR text) ⟨#[45]⟩).2.1, .bool (cutG (tkR text) ⟨#[45]⟩).2.2]) rfl rfl rfl Tryz.func38 Zk rfl (fun w1 hw1 => c_Cut (tkR text) ⟨#[45]⟩ w1 (by have := tk_sz text; omega) (hL.later (hw1.base (by simp [h0])))) ?_
 refine Xm ?_
 refine Xv rfl (v_extract rfl rfl) ?_
 refine Xv rfl (v_extract rfl rfl) ?_
 refine Xb rfl (v_extract rfl rfl) fun b30 hb30 => ?_
 refine Xa ?_
 refine Xa ?_
 refine Xa ?_
 refine Ze (Zt ?_)
 refine w_seq_cut (σ := Unit) (fun q => True) (fun q => [(0, Value.pointer (some ⟨bs, 0, none⟩)), (2, Value.int .i64 day), (8, Value.bool (tkS text)), (9, Value.string (tkA text)), (10, Value.string (tkB text))]) (fun q => (bs, Obj.cells (serC p r1 r2 R es.length).toArray 61 (0, 0)) :: (rowO 85 R ++ (rowO 3 r1 ++ (rowO 3 r2 ++ l2)))) (fun q => ro) ?_ ?_
 ·refine w_seq ?_
  refine Zr ?_
  refine Xm ?_
  refine Xb rfl (v_not rfl) fun b32 hb32 => ?_
  refine Ze (Zt ?_)
  refine w_cond rfl (fun hc32 => ?_) (fun hc32 => ?_)
  ·have htw : (cutG (tkR text) ⟨#[45]⟩).2.2 = false := by rw [hb32, hb30] at hc32; simpa using hc32
   refine Zr ?_
   refine Xm ?_
   refine Xa ?_
   refine Ze ?_
   have hB : tkB text = tkA text := by unfold tkB tkA; rw [htw]; rfl
   rw [hB] at *
   exact c_norm () trivial Zu (fun _ h => h)
  have htw : (cutG (tkR text) ⟨#[45]⟩).2.2 = true := by rw [hb32, hb30] at hc32; simpa using hc32
  refine w_skip ?_
  have hB : tkB text = (cutG (tkR text) ⟨#[45]⟩).2.1 := by unfold tkB; rw [htw]; rfl
  exact c_norm () trivial (by rw [hB]; exact Zu) (fun _ h => h)
 rintro _ _
 refine Zs (Zr ?_)
 refine Xm ?_
 refine x_call (R := fun v wa wb => ∃ v2, v = .tuple #[v2, .bool (numsOf (tkA text)).2] ∧ sliceRd tyI (fun b => wa.heap.size ≤ b) wb v2 (numsOf (tkA text)).1) rfl rfl rfl Tryz.func39 Zk rfl (fun w1 hw1 => (c_nums (tkA text) w1 (by have := tk_sz text; omega) (hL.later (hw1.base (by simp [h0])))).mono fun e w2 ⟨v, h1, h2, h3⟩ => ⟨_, h1, h2, v, rfl, h3⟩) fun v36 wa36 wb36 hm36 hl36 hR36 => ?_
 obtain ⟨v36_, rfl, hn36⟩ := hR36
 obtain ⟨A36, k36, rfl, _⟩ := id hn36
 refine Xm ?_
 refine Xv rfl (v_extract rfl rfl) ?_
 refine Xb rfl (v_extract rfl rfl) fun b38 hb38 => ?_
 refine Xa ?_
 refine Xa ?_
 refine Ze (Zt (Zs (Zr ?_)))
 refine Xm ?_
 refine x_call (R := fun v wa wb => ∃ v2, v = .tuple #[v2, .bool (numsOf (tkB text)).2] ∧ sliceRd tyI (fun b => wa.heap.size ≤ b) wb v2 (numsOf (tkB text)).1) rfl rfl rfl Tryz.func39 Zk rfl (fun w1 hw1 => (c_nums (tkB text) w1 (by have := tk_sz text; omega) (hL.later (hw1.base (by simp [h0])))).mono fun e w2 ⟨v, h1, h2, h3⟩ => ⟨_, h1, h2, v, rfl, h3⟩) fun v41 wa41 wb41 hm41 hl41 hR41 => ?_
 obtain ⟨v41_, rfl, hn41⟩ := hR41
 obtain ⟨A41, k41, rfl, _⟩ := id hn41
 refine Xm ?_
 refine Xv rfl (v_extract rfl rfl) ?_
 refine Xb rfl (v_extract rfl rfl) fun b43 hb43 => ?_
 refine Xa ?_
 refine Xa ?_
 refine Ze (Zt (Zs (w_block (Zs (Zr ?_)))))
 refine Xm ?_
 refine Xb rfl (v_not rfl) fun b46 hb46 => ?_
 refine Xm ?_
 refine Xg ?_
 refine Xj rfl rfl rfl (fun hg0 => by subst hg0; (try simp only [Qy]); exact v_not rfl) fun b49 hb49 => ?_
 refine Xb rfl (v_or rfl rfl) fun b50 hb50 => ?_
 refine Xa ?_
 refine Ze (Zt ?_)
 refine w_cond rfl (fun hc44 => ?_) (fun hc44 => ?_)
 ·have hT : takeQ p es text day = (es, 11) := by
   unfold takeQ
   rw [if_pos (by rw [← hb38, ← hb43, ← hb49, ← hb46, ← hb50]; exact hc44)]
  refine Zs (Zr ?_)
  refine Xa ?_
  refine Ze (Zt (w_ret (b_ret (t_ret ?_))))
  refine ret1 rfl rfl (fun w' hm => ⟨R, by rw [hT], by rw [hT]; exact hS.ent, ?_⟩)
  rw [hT]
  exact hm.less (by repeat (first | exact List.Sublist.refl _ | apply List.Sublist.cons)) (fun s hs => by repeat (first | exact hs | apply List.mem_cons_of_mem))
 have hn0 : (!(numsOf (tkA text)).2 || !(numsOf (tkB text)).2) = false := by rw [← hb38, ← hb43, ← hb49, ← hb46, ← hb50]; exact hc44
 refine Zs (Zr ?_)
 refine Xm ?_
 refine x_callb rfl rfl rfl Tryz.func40 Zk rfl (fun w1 hw1 => c_isDay day w1 hd (hL.later (hw1.base (by simp [h0])))) fun b53 hb53 => ?_
 refine Xb rfl (v_not rfl) fun b54 hb54 => ?_
 refine Xa ?_
 refine Ze (Zt ?_)
 refine w_cond rfl (fun hc51 => ?_) (fun hc51 => ?_)
 ·have hT : takeQ p es text day = (es, 1) := by
   unfold takeQ
   rw [hn0, if_neg Bool.false_ne_true, if_neg (fun h => by rw [hb54, hb53, decide_eq_true h] at hc51; cases hc51)]
  refine Zs (Zr ?_)
  refine Xa ?_
  refine Ze (Zt (w_ret (b_ret (t_ret ?_))))
  refine ret1 rfl rfl (fun w' hm => ⟨R, by rw [hT], by rw [hT]; exact hS.ent, ?_⟩)
  rw [hT]
  exact hm.less (by repeat (first | exact List.Sublist.refl _ | apply List.Sublist.cons)) (fun s hs => by repeat (first | exact hs | apply List.mem_cons_of_mem))
 have hT1 : takeQ p es text day = takeP p es (tkS text) (numsOf (tkA text)).1 (numsOf (tkB text)).1 day := by
  unfold takeQ
  rw [hn0, if_neg Bool.false_ne_true, if_pos (by rw [hb54, hb53] at hc51; simpa using hc51)]
 have rA := numP_rng p (numsOf (tkA text)).1
 have rB := numP_rng p (numsOf (tkB text)).1
 refine w_skip (b_norm (Zt (Zs (Zr ?_))))
 refine Xm ?_
 refine Xv rfl (v_nilCheck rfl) ?_
 refine Xv rfl (v_fieldAddr (off' := 0) u61 rfl sz26 (by decide) rfl rfl) ?_
 refine Xv rfl (v_loadN (vs := (serC p r1 r2 R es.length).take 4) u26 rfl sz26 rfl (fun j hj => at_ownL (vs := serC p r1 r2 R es.length) (.head _) (by match j, hj with | 0, _ | 1, _ | 2, _ | 3, _ => rfl))) ?_
 refine Xm ?_
 refine x_callv (v := Value.tuple #[.int .i64 ((numP p (numsOf (tkA text)).1).getD 0), .bool (numP p (numsOf (tkA text)).1).isSome]) rfl rfl rfl Tryz.func29 Zk rfl (fun w1 hw1 => c_Number p (numsOf (tkA text)).1 w1 (⟨hS.fst, hS.dys, rowI_rd (D := fun _ => True) (e := 3) hS.lvs rfl hS.lin hw1 (fun q hq => by repeat (first | exact List.mem_append_left _ hq | exact hq | apply List.mem_append_right | apply List.Mem.tail)) (fun _ _ => trivial), rowI_rd (D := fun _ => True) (e := 3) hS.sts rfl hS.sin hw1 (fun q hq => by repeat (first | exact List.mem_append_left _ hq | exact hq | apply List.mem_append_right | apply List.Mem.tail)) (fun _ _ => trivial)⟩ : patRd (fun _ => True) w1 p (rowV r1 p.lv.length) (rowV r2 p.st.length)) (keep_new hn36 hw1 Zh hm36) (hL.later (hw1.base (by simp [h0])))) ?_
 refine Xm ?_
 refine Xv rfl (v_extract rfl rfl) ?_
 refine Xb rfl (v_extract rfl rfl) fun b63 hb63 => ?_
 refine x_alloc rfl rfl rfl zr3 ?_
 intro p16
 refine x_store [] rfl rfl rfl rfl sz3 rfl (by first | decide | simp) ?_
 refine Xa ?_
 refine Ze (Zt (Zs (Zr ?_)))
 refine Xm ?_
 refine Xv rfl (v_nilCheck rfl) ?_
 refine Xv rfl (v_fieldAddr (off' := 0) u61 rfl sz26 (by decide) rfl rfl) ?_
 refine Xv rfl (v_loadN (vs := (serC p r1 r2 R es.length).take 4) u26 rfl sz26 rfl (fun j hj => at_ownL (vs := serC p r1 r2 R es.length) (.tail _ (.head _)) (by match j, hj with | 0, _ | 1, _ | 2, _ | 3, _ => rfl))) ?_
 refine Xm ?_
 refine x_callv (v := Value.tuple #[.int .i64 ((numP p (numsOf (tkB text)).1).getD 0), .bool (numP p (numsOf (tkB text)).1).isSome]) rfl rfl rfl Tryz.func29 Zk rfl (fun w1 hw1 => c_Number p (numsOf (tkB text)).1 w1 (⟨hS.fst, hS.dys, rowI_rd (D := fun _ => True) (e := 3) hS.lvs rfl hS.lin hw1 (fun q hq => by repeat (first | exact List.mem_append_left _ hq | exact hq | apply List.mem_append_right | apply List.Mem.tail)) (fun _ _ => trivial), rowI_rd (D := fun _ => True) (e := 3) hS.sts rfl hS.sin hw1 (fun q hq => by repeat (first | exact List.mem_append_left _ hq | exact hq | apply List.mem_append_right | apply List.Mem.tail)) (fun _ _ => trivial)⟩ : patRd (fun _ => True) w1 p (rowV r1 p.lv.length) (rowV r2 p.st.length)) (keep_new hn41 hw1 Zh hm41) (hL.later (hw1.base (by simp [h0])))) ?_
 refine Xm ?_
 refine Xv rfl (v_extract rfl rfl) ?_
 refine Xb rfl (v_extract rfl rfl) fun b72 hb72 => ?_
 refine x_alloc rfl rfl rfl zr3 ?_
 intro p17
 refine x_store [] rfl rfl rfl rfl sz3 rfl (by first | decide | simp) ?_
 refine Xa ?_
 refine Ze (Zt (Zs (w_block (Zs (Zr ?_)))))
 refine Xm ?_
 refine Xb rfl (v_not rfl) fun b75 hb75 => ?_
 refine Xm ?_
 refine Xg ?_
 refine Xj rfl rfl rfl (fun hg0 => by subst hg0; (try simp only [Qy]); exact v_not rfl) fun b78 hb78 => ?_
 refine Xb rfl (v_or rfl rfl) fun b79 hb79 => ?_
 refine Xm ?_
 refine Xi rfl rfl rfl (fun hg0 => by subst hg0; (try simp only [Qy]); exact Vl u3 rfl) ?_
 refine Xi rfl rfl rfl (fun hg0 => by subst hg0; (try simp only [Qy]); exact Vl u3 rfl) ?_
 refine Xj rfl rfl rfl (fun hg0 => by subst hg0; (try simp only [Qy]); exact v_lss rfl rfl) fun b83 hb83 => ?_
 refine Xb rfl (v_or rfl rfl) fun b84 hb84 => ?_
 refine Xm ?_
 refine Xi rfl rfl rfl (fun hg0 => by subst hg0; (try simp only [Qy]); exact Vl u3 rfl) ?_
 refine Xi rfl rfl rfl (fun hg0 => by subst hg0; (try simp only [Qy]); exact Vl u3 rfl) ?_
 refine Xi rfl rfl rfl (fun hg0 => by subst hg0; (try simp only [Qy]); exact v_subi rfl rfl rfl Zo) ?_
 refine Xj rfl rfl rfl (fun hg0 => by subst hg0; (try simp only [Qy]); exact v_geq rfl rfl) fun b89 hb89 => ?_
 refine Xb rfl (v_or rfl rfl) fun b90 hb90 => ?_
 refine Xa ?_
 refine Ze (Zt ?_)
 refine w_cond rfl (fun hc73 => ?_) (fun hc73 => ?_)
 ·have hT : takeQ p es text day = (es, 32) := by
   rw [hT1]
   rcases h1 : (numP p (numsOf (tkA text)).1).isSome with _ | _
   ·exact takeP_none (.inl h1)
   rcases h2 : (numP p (numsOf (tkB text)).1).isSome with _ | _
   ·exact takeP_none (.inr h2)
   rw [takeP_some h1 h2, if_pos]
   have hc := hc73
   simp only [hb90, hb89, hb84, hb83, hb79, hb78, hb75, hb72, hb63, h1, h2, Bool.not_true, Bool.false_or, Bool.or_eq_true, decide_eq_true_eq] at hc
   omega
  refine Zs (Zr ?_)
  refine Xa ?_
  refine Ze (Zt (w_ret (b_ret (t_ret ?_))))
  refine ret1 rfl rfl (fun w' hm => ⟨R, by rw [hT], by rw [hT]; exact hS.ent, ?_⟩)
  rw [hT]
  exact hm.less (by repeat (first | exact List.Sublist.refl _ | apply List.Sublist.cons)) (fun s hs => by repeat (first | exact hs | apply List.mem_cons_of_mem))
 have hc := hc73
 simp only [hb90, hb89, hb84, hb83, hb79, hb78, hb75, hb72, hb63, Bool.or_eq_false_iff, Bool.not_eq_false', decide_eq_false_iff_not] at hc
 obtain ⟨⟨⟨h1, h2⟩, h3⟩, h4⟩ := hc
 rw [takeP_some h1 h2, if_neg (by omega)] at hT1
 refine Zs (Zr ?_)
 refine Xm ?_
 refine Xv rfl (v_nilCheck rfl) ?_
 refine Xv rfl (v_fieldAddr (off' := 4) u61 rfl sz59 (by decide) rfl rfl) ?_
 refine Xv rfl (v_load u59 rfl rfl (at_ownL (vs := serC p r1 r2 R es.length) (.tail _ (.tail _ (.head _))) rfl)) ?_
 refine Xv rfl (v_func rfl) ?_
 refine x_callb (b := es.any (fun e : Ent => decide (((numP p (numsOf (tkA text)).1).getD 0) ≤ e.to) && decide (e.fr ≤ ((numP p (numsOf (tkB text)).1).getD 0)))) rfl rfl rfl Tryz.func41 Zk rfl (fun w1 hw1 => c_CF (fun e : Ent => decide (((numP p (numsOf (tkA text)).1).getD 0) ≤ e.to) && decide (e.fr ≤ ((numP p (numsOf (tkB text)).1).getD 0))) w1 (ents_rd (D := fun _ => True) (e := 85) hS.ent rfl hS.ein hw1 (fun q hq => by repeat (first | exact List.mem_append_left _ hq | exact hq | apply List.mem_append_right | apply List.Mem.tail)) (fun _ _ => trivial)) Tryz.func42 Zk (fun x w2 h2 => c_cl1 x p16 p17 ((numP p (numsOf (tkA text)).1).getD 0) ((numP p (numsOf (tkB text)).1).getD 0) w2 (((h2.cell (p := ⟨p16, 0, none⟩) (cell_lt (hw1.cell_own (.tail _ (.head _)) 0))).trans (hw1.cell_own (.tail _ (.head _)) 0))) (((h2.cell (p := ⟨p17, 0, none⟩) (cell_lt (hw1.cell_own (.head _) 0))).trans (hw1.cell_own (.head _) 0))))) fun b97 hb97 => ?_
 refine Xa ?_
 refine Ze (Zt ?_)
 refine w_cond rfl (fun hc91 => ?_) (fun hc91 => ?_)
 ·have hT : takeQ p es text day = (es, 22) := by rw [hT1, if_pos (hb97.symm.trans hc91)]
  refine Zs (Zr ?_)
  refine Xa ?_
  refine Ze (Zt (w_ret (b_ret (t_ret ?_))))
  refine ret1 rfl rfl (fun w' hm => ⟨R, by rw [hT], by rw [hT]; exact hS.ent, ?_⟩)
  rw [hT]
  exact hm.less (by repeat (first | exact List.Sublist.refl _ | apply List.Sublist.cons)) (fun s hs => by repeat (first | exact hs | apply List.mem_cons_of_mem))
 have hT : takeQ p es text day = ((insE es ⟨((numP p (numsOf (tkA text)).1).getD 0), ((numP p (numsOf (tkB text)).1).getD 0), tkS text, day⟩), 0) := by rw [hT1, if_neg (by rw [← hb97, hc91]; exact Bool.false_ne_true)]
 refine w_skip (b_norm (Zt (Zs ?_)))
 refine rg_inv ([(p17, Obj.cells [Value.int .i64 ((numP p (numsOf (tkB text)).1).getD 0)].toArray 3 (0, 0)), (p16, Obj.cells [Value.int .i64 ((numP p (numsOf (tkA text)).1).getD 0)].toArray 3 (0, 0)), (bs, Obj.cells (serC p r1 r2 R es.length).toArray 61 (0, 0))]) 12 (.flt 0 (.flt 1 (.flt 2 (.flt 3 (.flt 4 (.flt 5 (.flt 6 (.flt 7 (.flt 8 (.flt 9 (.flt 10 (.gr 11 .done .nil)))))))))))) ((((List.nil_sublist _).cons_cons _).cons_cons _).cons_cons _) Zk Zk ?_
 refine j_val rfl rfl (v_move rfl) ?_
 refine j_val rfl rfl (v_move rfl) ?_
 refine j_val rfl rfl (v_nilCheck rfl) ?_
 refine j_val rfl rfl (v_fieldAddr (off' := 4) u61 rfl sz59 (by decide) rfl rfl) ?_
 refine j_val rfl rfl (v_load u59 rfl rfl (at_ownL (vs := serC p r1 r2 R es.length) (.tail _ (.tail _ (.head _))) rfl)) ?_
 refine j_val rfl rfl (Vl u3 rfl) ?_
 refine j_val rfl rfl (Vl u3 rfl) ?_
 refine j_val rfl rfl (v_move rfl) ?_
 refine j_val rfl rfl (v_move rfl) ?_
 refine j_val (v := Value.agg #[.int .i64 ((numP p (numsOf (tkA text)).1).getD 0), .int .i64 ((numP p (numsOf (tkB text)).1).getD 0), .bool (tkS text), .int .i64 day]) rfl rfl (v_buildL (places := [(0, 1), (1, 1), (2, 1), (3, 1)]) u85 zr85 Zk rfl rfl) ?_
 refine j_val rfl rfl (v_func rfl) ?_
 refine j_gr ?_ j_nil
 refine x_mem (own' := rowO 85 R ++ ((p17, Obj.cells [Value.int .i64 ((numP p (numsOf (tkB text)).1).getD 0)].toArray 3 (0, 0)) :: (p16, Obj.cells [Value.int .i64 ((numP p (numsOf (tkA text)).1).getD 0)].toArray 3 (0, 0)) :: (bs, Obj.cells (serC p r1 r2 R es.length).toArray 61 (0, 0)) :: (rowO 3 r1 ++ (rowO 3 r2 ++ l2)))) (fun _ h => h.perm (List.perm_append_comm_assoc [(p17, Obj.cells [Value.int .i64 ((numP p (numsOf (tkB text)).1).getD 0)].toArray 3 (0, 0)), (p16, Obj.cells [Value.int .i64 ((numP p (numsOf (tkA text)).1).getD 0)].toArray 3 (0, 0)), (bs, Obj.cells (serC p r1 r2 R es.length).toArray 61 (0, 0))] (rowO 85 R) (rowO 3 r1 ++ (rowO 3 r2 ++ l2)))) ?_
 refine x_turnV (fst := #[]) (cap := #[]) (fun R' : RowS => rowV R' (es.length + 1)) (fun R' => rowOK 4 R' (es.length + 1) (entsC (insE es ⟨((numP p (numsOf (tkA text)).1).getD 0), ((numP p (numsOf (tkB text)).1).getD 0), tkS text, day⟩))) (fun R' => rowO 85 R' ++ ((p17, Obj.cells [Value.int .i64 ((numP p (numsOf (tkB text)).1).getD 0)].toArray 3 (0, 0)) :: (p16, Obj.cells [Value.int .i64 ((numP p (numsOf (tkA text)).1).getD 0)].toArray 3 (0, 0)) :: (bs, Obj.cells (serC p r1 r2 R es.length).toArray 61 (0, 0)) :: (rowO 3 r1 ++ (rowO 3 r2 ++ l2)))) rfl rfl rfl Tryz.func43 Zk rfl (fun w1 hw1 => by
  have h := c_ins es ⟨((numP p (numsOf (tkA text)).1).getD 0), ((numP p (numsOf (tkB text)).1).getD 0), tkS text, day⟩ p17 hw1 (.head _) hS.ent hS.ein hlen
  simpa using h) ?_
 intro R' hR'
 refine Ze ?_
 refine j_end (((((List.nil_sublist _).cons_cons _).cons_cons _).cons_cons _).trans (List.sublist_append_right _ _)) ?_
 refine j_done ?_
 refine Xv rfl (v_nilCheck rfl) ?_
 refine Xv rfl (v_fieldAddr (off' := 4) u61 rfl sz59 (by decide) rfl rfl) ?_
 refine x_store (cs := serC p r1 r2 R es.length) (off := 4) (e := 61) (l2 := (rowO 3 r1 ++ (rowO 3 r2 ++ l2))) (rowO 85 R' ++ [(p17, Obj.cells [Value.int .i64 ((numP p (numsOf (tkB text)).1).getD 0)].toArray 3 (0, 0)), (p16, Obj.cells [Value.int .i64 ((numP p (numsOf (tkA text)).1).getD 0)].toArray 3 (0, 0))]) rfl rfl rfl (by simp [List.append_assoc]) sz59 rfl (by show 5 ≤ 5; decide) ?_
 refine Ze (Zt (Zs (Zr ?_)))
 refine Xa ?_
 refine Ze (Zt (w_ret ?_))
 refine ret1 rfl rfl (fun w' hm => ⟨R', by rw [hT], by rw [hT]; show rowOK 4 R' (insE es ⟨((numP p (numsOf (tkA text)).1).getD 0), ((numP p (numsOf (tkB text)).1).getD 0), tkS text, day⟩).length (entsC (insE es ⟨((numP p (numsOf (tkA text)).1).getD 0), ((numP p (numsOf (tkB text)).1).getD 0), tkS text, day⟩)); rw [insE_len]; exact hR', ?_⟩)
 rw [hT]
 show Mem w' ((bs, Obj.cells (serC p r1 r2 R' (insE es ⟨((numP p (numsOf (tkA text)).1).getD 0), ((numP p (numsOf (tkB text)).1).getD 0), tkS text, day⟩).length).toArray 61 (0, 0)) :: (rowO 85 R' ++ (rowO 3 r1 ++ (rowO 3 r2 ++ l2)))) ro
 rw [insE_len]
 have hm1 : Mem w' ((rowO 85 R' ++ [(p17, Obj.cells [Value.int .i64 ((numP p (numsOf (tkB text)).1).getD 0)].toArray 3 (0, 0)), (p16, Obj.cells [Value.int .i64 ((numP p (numsOf (tkA text)).1).getD 0)].toArray 3 (0, 0))]) ++ (bs, Obj.cells (serC p r1 r2 R' (es.length + 1)).toArray 61 (0, 0)) :: (rowO 3 r1 ++ (rowO 3 r2 ++ l2))) ro := hm.less (List.Sublist.refl _) (fun s hs => by repeat (first | exact hs | apply List.mem_cons_of_mem))
 rw [List.append_assoc] at hm1
 exact (hm1.perm (List.perm_append_comm_assoc (rowO 85 R') [(p17, Obj.cells [Value.int .i64 ((numP p (numsOf (tkB text)).1).getD 0)].toArray 3 (0, 0)), (p16, Obj.cells [Value.int .i64 ((numP p (numsOf (tkA text)).1).getD 0)].toArray 3 (0, 0)), (bs, Obj.cells (serC p r1 r2 R' (es.length + 1)).toArray 61 (0, 0))] (rowO 3 r1 ++ (rowO 3 r2 ++ l2)))).less (by repeat (first | exact List.Sublist.refl _ | apply List.Sublist.cons)) (fun s hs => by repeat (first | exact hs | apply List.mem_cons_of_mem))
open Go.RowKit Go.PK
theorem rd_in {D : Nat → Prop} {w : World} {A : Option Addr} {l c : Nat} {xs : List Int} (h : sliceRd tyI D w (.slice A l c) xs) : ∀ d ∈ xs, in64 d := fun d hd => by
 obtain ⟨j, hj, rfl⟩ := List.getElem_of_mem hd
 obtain ⟨_, _, _, _, _, h1⟩ := int_at h hj
 exact h1
theorem c_New {D : Nat → Prop} {v1 v2 : Value} (p : Pat) (w : World) (hp : patRd D w p v1 v2) (hq : rightQ p) (hL : LD w) :
  Calls Tryz.prog 10 #[.agg #[.int .i64 p.first, .int .i64 p.days, v1, v2]] w fun e w' => ∃ b r1 r2, e = .returned (.pointer (some ⟨b, 0, none⟩)) ∧ Later w w' ∧ SerOK p [] r1 r2 none ∧ Mem w' ((b, Obj.cells (serC p r1 r2 none 0).toArray 61 (0, 0)) :: (rowO 3 r1 ++ rowO 3 r2)) [(w, fun _ => True)] := by
 obtain ⟨hp1, hp2, h1, h2⟩ := id hp
 obtain ⟨A1, c1, rfl, hlc1, hmx1, hB1⟩ := id h1
 obtain ⟨A2, c2, rfl, hlc2, hmx2, hB2⟩ := id h2
 obtain ⟨bL, oL, hL0, hLk⟩ := rd_blk h1
 obtain ⟨bS, oS, hS0, hSk⟩ := rd_blk h2
 have q2 := hq.1.2.1
 have q3 := hq.1.2.2.1
 refine enter (vs := [.agg #[.int .i64 p.first, .int .i64 p.days, .slice A1 p.lv.length c1, .slice A2 p.st.length c2]]) Tryz.func10 rfl Tryz.ntmps10 rfl ?_
 refine Zs (Zr ?_)
 refine x_box rfl rfl rfl rfl ?_
 intro p1
 refine Xa ?_
 refine Ze (Zt (Zs (Zs (Zr ?_))))
 refine Xv rfl (v_load_blk u26 rfl rfl (by first | exact .head _ | exact .tail _ (.head _) | exact .tail _ (.tail _ (.head _)) | (repeat (first | exact List.Mem.head _ | apply List.Mem.tail | apply List.mem_append_right))) (by exact sz26)) ?_
 refine x_callb rfl rfl rfl Tryz.func33 Zk rfl (fun w1 hw1 => c_Right p w1 (hp.keep (Kept.later (hw1.base (by simp)))) (hL.later (hw1.base (by simp)))) fun b4 hb4 => ?_
 refine Xb rfl (v_not rfl) fun b5 hb5 => ?_
 refine Ze (Zt ?_)
 refine w_cond rfl (fun hc5 => ?_) (fun hc5 => ?_)
 ·rw [hb5, hb4, decide_eq_true hq] at hc5; cases hc5
 skip
 refine w_skip (Zt (Zs ?_))
 refine rg_draw 7 [(true, 0), (true, 1), (true, 3), (true, 4), (false, 2), (true, 6), (false, 5)] Zk Zk ?_
 refine Xv rfl (v_fieldAddr (off' := 2) u26 rfl sz22 (by decide) rfl rfl) ?_
 refine Xv rfl (Vl u22 rfl) ?_
 refine Xv rfl (v_fieldAddr (off' := 3) u26 rfl sz22 (by decide) rfl rfl) ?_
 refine Xv rfl (Vl u22 rfl) ?_
 refine x_own (τ := RowS) (fun r => rowV r p.lv.length) (fun r => rowOK 1 r p.lv.length (p.lv.map (Value.int .i64))) (fun r => rowO 3 r ++ [(p1, Obj.cells #[Value.int .i64 p.first, Value.int .i64 p.days, Value.slice A1 p.lv.length c1, Value.slice A2 p.st.length c2] 26)]) rfl rfl rfl Tryz.func34 Zk rfl (fun w1 hw1 => c_Clone hw1 (h1.keep (Kept.later (hw1.base (by simp)))) (by omega)) fun r1 hr1 => ?_
 refine Xv rfl (v_fieldAddr (off' := 2) u26 rfl sz22 (by decide) rfl rfl) ?_
 refine x_own (τ := RowS) (fun r => rowV r p.st.length) (fun r => rowOK 1 r p.st.length (p.st.map (Value.int .i64))) (fun r => rowO 3 r ++ (rowO 3 r1 ++ [(p1, Obj.cells #[Value.int .i64 p.first, Value.int .i64 p.days, Value.slice A1 p.lv.length c1, Value.slice A2 p.st.length c2] 26)])) rfl rfl rfl Tryz.func34 Zk rfl (fun w1 hw1 => c_Clone hw1 (h2.keep (Kept.later (hw1.base (by simp)))) (by omega)) fun r2 hr2 => ?_
 refine x_store (cs := [Value.int .i64 p.first, Value.int .i64 p.days, Value.slice A1 p.lv.length c1, Value.slice A2 p.st.length c2]) (off := 2) (e := 26) (l2 := []) (rowO 3 r2 ++ rowO 3 r1) rfl rfl rfl (by rw [List.append_assoc]) sz22 rfl (by show 3 ≤ 4; decide) ?_
 refine Xv rfl (v_fieldAddr (off' := 3) u26 rfl sz22 (by decide) rfl rfl) ?_
 refine x_store (cs := [Value.int .i64 p.first, Value.int .i64 p.days, rowV r1 p.lv.length, Value.slice A2 p.st.length c2]) (off := 3) (e := 26) (l2 := []) (rowO 3 r2 ++ rowO 3 r1) rfl rfl rfl rfl sz22 rfl (by show 4 ≤ 4; decide) ?_
 refine Ze (Zt (Zs (Zr ?_)))
 refine Xv rfl (v_load_blk (e := 26) (fz := (0, 0)) (cs := [Value.int .i64 p.first, Value.int .i64 p.days, rowV r1 p.lv.length, rowV r2 p.st.length].toArray) u26 rfl rfl (List.mem_append_right _ (.head _)) (by exact sz26)) ?_
 refine Xv (v := Value.agg (serC p r1 r2 none 0).toArray) rfl (v_buildL (places := [(0, 4), (4, 1)]) u61 zr61 Zk rfl rfl) ?_
 refine x_box rfl rfl rfl rfl ?_
 intro p18
 refine Xa ?_
 refine Ze (Zt (w_ret ?_))
 refine ret1 rfl rfl (fun w' hm => ⟨p18, r1, r2, rfl, hm.base (by simp), ⟨hp1, hp2, hr1, rd_in h1, hr2, rd_in h2, rowOK_nil, (fun x hx => by cases hx)⟩, ?_⟩)
 rw [List.append_assoc] at hm
 exact (hm.less (((List.Sublist.refl _).append (List.sublist_append_left _ _)).cons_cons _) (fun _ h => h)).perm (List.Perm.cons _ List.perm_append_comm)
end Go.Proofs.YtaniaihoodgmpaaGreatDoor
