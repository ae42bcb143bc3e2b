/- Of the proofs of YtaniaihoodgmpaaGreatDoor: Uc Ud Ue Uf Ug Uh Ui Uj Uk Ul Um Un Uo Up Uq, put together. -/
import Derived.Test.YtaniaihoodgmpaaGreatDoorM6
import Derived.Test.YtaniaihoodgmpaaGreatDoorM2
import Derived.Test.YtaniaihoodgmpaaGreatDoorM3
import Derived.Test.YtaniaihoodgmpaaGreatDoorM1
import Derived.Test.YtaniaihoodgmpaaGreatDoorM4
import Derived.Test.YtaniaihoodgmpaaGreatDoorM5
namespace Go.Proofs.YtaniaihoodgmpaaGreatDoor
open Go.RowKit Go.PK
set_option linter.unusedVariables false
set_option linter.unusedSimpArgs false
set_option maxRecDepth 100000 in
theorem c_Sgn (n : Int) (w : World) (h : in64 n) :
  Calls Tryz.prog 84 #[.int .i64 n] w fun e w' => e = .returned (.int .u64 (sgn n : Nat)) ∧ Later w w' := by
 refine enter (vs := [.int .i64 n]) Tryz.func84 rfl Tryz.ntmps84 rfl ?_
 refine w_seq ?_
 refine rg_text ?_
 refine x_val rfl rfl rfl (v_assign rfl) ?_
 refine x_end ?_
 refine t_norm ?_
 refine w_seq ?_
 refine rg_text ?_
 refine x_val rfl rfl rfl (v_move rfl) ?_
 refine x_val rfl rfl rfl (v_conv Tryz.underlying3 Tryz.underlying107 rfl) ?_
 refine x_val (v := Value.int .u64 (IntKind.u64.wrap (IntKind.u64.wrap n * 2))) rfl rfl rfl (v_shl rfl rfl (by decide) rfl) ?_
 refine x_val rfl rfl rfl (v_move rfl) ?_
 refine x_val (v := Value.int .i64 (n / 9223372036854775808)) rfl rfl rfl (v_shr rfl rfl (by decide) rfl) ?_
 refine x_val rfl rfl rfl (v_conv Tryz.underlying3 Tryz.underlying107 rfl) ?_
 refine x_val (v := Value.int .u64 (sgn n : Nat)) rfl rfl rfl (by rw [← xor_sgn h]; exact v_xorK rfl rfl) ?_
 refine x_val rfl rfl rfl (v_assign rfl) ?_
 refine x_end ?_
 refine t_norm ?_
 refine w_ret ?_
 refine ret1 rfl rfl (fun w' hm => ⟨?_, hm.base (by simp)⟩)
 rfl
set_option maxRecDepth 100000 in
theorem c_rSgn (n : Int) (w : World) (h : in64 n) :
  Calls Tryz.prog 62 #[.int .i64 n] w fun e w' => e = .returned (.int .u64 (sgn n : Nat)) ∧ Later w w' := by
 refine enter (vs := [.int .i64 n]) Tryz.func62 rfl Tryz.ntmps62 rfl ?_
 refine w_seq ?_
 refine rg_text ?_
 refine x_val rfl rfl rfl (v_assign rfl) ?_
 refine x_end ?_
 refine t_norm ?_
 refine w_seq ?_
 refine w_seq ?_
 refine rg_text ?_
 refine x_val rfl rfl rfl (v_move rfl) ?_
 refine x_bool rfl rfl rfl (v_geq rfl rfl) ?_
 intro b4 hb4
 refine x_end ?_
 refine t_norm ?_
 refine w_cond rfl (fun hc4 => ?_) (fun hc4 => ?_)
 ·simp only [hb4, Qz1, Qz2, Qz3, Qz4, Qz5, Qz6, Qz7, Qz8, Qz9, Qz0] at hc4
  refine w_seq ?_
  refine rg_text ?_
  refine x_val rfl rfl rfl (v_move rfl) ?_
  refine x_val rfl rfl rfl (v_convE (c := n) Tryz.underlying3 Tryz.underlying107 rfl (u64_wrap (by unfold in64 at h; omega))) ?_
  refine x_val (v := Value.int .u64 (sgn n : Nat)) rfl rfl rfl (v_mulE rfl rfl (by rw [u64_wrap (by unfold in64 at h; omega)]; unfold sgn; rw [if_pos (by omega)]; omega)) ?_
  refine x_val rfl rfl rfl (v_assign rfl) ?_
  refine x_end ?_
  refine t_norm ?_
  refine w_ret ?_
  refine t_ret ?_
  refine ret1 rfl rfl (fun w' hm => ⟨?_, hm.base (by simp)⟩)
  rfl
 ·simp only [hb4, Qz1, Qz2, Qz3, Qz4, Qz5, Qz6, Qz7, Qz8, Qz9, Qz0] at hc4
  refine w_skip ?_
  refine t_norm ?_
  refine w_seq ?_
  refine rg_text ?_
  refine x_val rfl rfl rfl (v_move rfl) ?_
  refine x_val rfl rfl rfl (v_subi (c := -1 - n) rfl rfl rfl (by unfold in64 at h; omega)) ?_
  refine x_val rfl rfl rfl (v_convE (c := -1 - n) Tryz.underlying3 Tryz.underlying107 rfl (u64_wrap (by unfold in64 at h; omega))) ?_
  refine x_val rfl rfl rfl (v_mulE (c := 2 * (-1 - n)) rfl rfl (u64_wrap (by unfold in64 at h; omega))) ?_
  refine x_val (v := Value.int .u64 (sgn n : Nat)) rfl rfl rfl (v_addE rfl rfl (by rw [u64_wrap (by unfold in64 at h; omega)]; unfold sgn; rw [if_neg (by omega)]; omega)) ?_
  refine x_val rfl rfl rfl (v_assign rfl) ?_
  refine x_end ?_
  refine t_norm ?_
  refine w_ret ?_
  refine ret1 rfl rfl (fun w' hm => ⟨?_, hm.base (by simp)⟩)
  rfl
set_option maxRecDepth 100000 in
theorem c_rN1 (n : Nat) (w : World) (hn : n < 18446744073709551616) (ih : ¬n < 128 → ∀ w1, Calls Tryz.prog 59 #[.int .u64 ((n / 128 : Nat) : Int)] w1 fun e w2 => e = .returned (.string ⟨(numG (n / 128)).toArray⟩) ∧ Later w1 w2) :
  Calls Tryz.prog 59 #[.int .u64 (n : Nat)] w fun e w' => e = .returned (.string ⟨(numG n).toArray⟩) ∧ Later w w' := by
 refine enter (vs := [.int .u64 (n : Nat)]) Tryz.func59 rfl Tryz.ntmps59 rfl ?_
 refine w_seq ?_
 refine rg_text ?_
 refine x_val rfl rfl rfl (v_assign rfl) ?_
 refine x_end ?_
 refine t_norm ?_
 refine w_seq ?_
 refine w_seq ?_
 refine rg_text ?_
 refine x_val rfl rfl rfl (v_move rfl) ?_
 refine x_bool rfl rfl rfl (v_lss rfl rfl) ?_
 intro b4 hb4
 refine x_end ?_
 refine t_norm ?_
 refine w_cond rfl (fun hc4 => ?_) (fun hc4 => ?_)
 ·simp only [hb4, Qz1, Qz2, Qz3, Qz4, Qz5, Qz6, Qz7, Qz8, Qz9, Qz0] at hc4
  have hn1 : n < 128 := by omega
  refine w_seq ?_
  refine rg_text ?_
  refine x_val rfl rfl rfl (v_move rfl) ?_
  refine x_val rfl rfl rfl (v_convU8 Tryz.underlying107 Tryz.underlying5 rfl (by omega)) ?_
  refine x_buildSliceL rfl rfl rfl Tryz.underlying45 sz5 zr5 rfl rfl rfl ?_
  intro p7
  refine x_val rfl rfl rfl (v_toStr [UInt8.ofNat n] Tryz.underlying45 Tryz.underlying5 Tryz.underlying9 rfl rfl (fun j hj => at_ownL (vs := [Value.int .u8 ((UInt8.ofNat n).toNat : Nat)]) (.head _) (by match j, hj with | 0, _ => rfl))) ?_
  refine x_val rfl rfl rfl (v_assign rfl) ?_
  refine x_end ?_
  refine t_norm ?_
  refine w_ret ?_
  refine t_ret ?_
  refine ret1 rfl rfl (fun w' hm => ⟨?_, hm.base (by simp)⟩)
  rw [numG_small hn1]
 ·simp only [hb4, Qz1, Qz2, Qz3, Qz4, Qz5, Qz6, Qz7, Qz8, Qz9, Qz0] at hc4
  have hn1 : ¬n < 128 := by omega
  refine w_skip ?_
  refine t_norm ?_
  refine w_seq ?_
  refine rg_draw 11 [(true, 0), (true, 1), (true, 2), (true, 3), (true, 6), (true, 7), (true, 8), (false, 4), (true, 5), (true, 9), (true, 10)] (by kernel_rfl) (by kernel_rfl) ?_
  refine x_val rfl rfl rfl (v_move rfl) ?_
  refine x_val (v := Value.int .u64 ((n % 128 : Nat) : Int)) rfl rfl rfl (v_remN (b := 128) rfl rfl (by decide)) ?_
  refine x_val (v := Value.int .u64 ((n % 128 + 128 : Nat) : Int)) rfl rfl rfl (v_addE rfl rfl (by rw [u64_wrap (by omega)]; omega)) ?_
  refine x_val rfl rfl rfl (v_convU8 Tryz.underlying107 Tryz.underlying5 rfl (by omega)) ?_
  refine x_val rfl rfl rfl (v_move rfl) ?_
  refine x_val (v := Value.int .u64 ((n / 128 : Nat) : Int)) rfl rfl rfl (v_quoE rfl rfl (by decide) (by rw [show ((n : Nat) : Int).tdiv 128 = ((n / 128 : Nat) : Int) from rfl, u64_wrap (by omega)])) ?_
  refine x_callv rfl rfl rfl Tryz.func59 (by kernel_rfl) rfl (fun w1 hw1 => ih hn1 w1) ?_
  refine x_buildSliceL rfl rfl rfl Tryz.underlying45 sz5 zr5 rfl rfl rfl ?_
  intro p13
  refine x_val rfl rfl rfl (v_toStr [UInt8.ofNat (n % 128 + 128)] Tryz.underlying45 Tryz.underlying5 Tryz.underlying9 rfl rfl (fun j hj => at_ownL (vs := [Value.int .u8 ((UInt8.ofNat (n % 128 + 128)).toNat : Nat)]) (.head _) (by match j, hj with | 0, _ => rfl))) ?_
  refine x_val rfl rfl rfl (v_saddL rfl rfl (by have := numG_ten (n := n / 128) (by omega); simp only [List.length_cons, List.length_nil]; omega)) ?_
  refine x_val rfl rfl rfl (v_assign rfl) ?_
  refine x_end ?_
  refine t_norm ?_
  refine w_ret ?_
  refine ret1 rfl rfl (fun w' hm => ⟨?_, hm.base (by simp)⟩)
  rw [numG_big hn1]; rfl
theorem c_rN : ∀ (m n : Nat) (w : World), n < 18446744073709551616 → n ≤ m → Calls Tryz.prog 59 #[.int .u64 (n : Nat)] w fun e w' => e = .returned (.string ⟨(numG n).toArray⟩) ∧ Later w w'
 | 0, n, w, hn, h => c_rN1 n w hn (fun h1 => by omega)
 | m + 1, n, w, hn, h => c_rN1 n w hn (fun h1 w1 => c_rN m (n / 128) w1 (by omega) (by omega))
theorem c_rNum (n : Nat) (w : World) (hn : n < 18446744073709551616) : Calls Tryz.prog 59 #[.int .u64 (n : Nat)] w fun e w' => e = .returned (.string ⟨(numG n).toArray⟩) ∧ Later w w' := c_rN n n w hn (Nat.le_refl _)
set_option maxRecDepth 100000 in
theorem c_rInts {D : Nat → Prop} {v : Value} {l : List Int} (w : World) (h : sliceRd tyI D w v l) (hll : l.length ≤ 1000000) :
  Calls Tryz.prog 26 #[v] w fun e w' => e = .returned (.string ⟨(intsG l).toArray⟩) ∧ Later w w' := by
 obtain ⟨A0, c0, rfl, hlc, hmx, -⟩ := id h
 have hin : ∀ n ∈ l, -9223372036854775808 ≤ n ∧ n ≤ 9223372036854775807 := rd_in h
 refine enter (vs := [Value.slice A0 l.length c0]) Tryz.func26 rfl Tryz.ntmps26 rfl ?_
 refine w_seq ?_
 refine rg_text ?_
 refine x_val rfl rfl rfl (v_assign rfl) ?_
 refine x_end ?_
 refine t_norm ?_
 refine w_seq ?_
 refine rg_text ?_
 refine x_val rfl rfl rfl (v_move rfl) ?_
 refine x_val rfl rfl rfl (v_len_slice Tryz.underlying22 rfl) ?_
 refine x_val rfl rfl rfl (v_convE (c := ((l.length : Nat) : Int)) Tryz.underlying3 Tryz.underlying107 rfl (u64_wrap (by omega))) ?_
 refine x_callv (v := Value.string ⟨(numG (l.length)).toArray⟩) rfl rfl rfl Tryz.func59 (by kernel_rfl) rfl (fun w1 hw1 => c_rNum _ w1 (by omega)) ?_
 refine x_val (v := Value.string ⟨(intsT l 0).toArray⟩) rfl rfl rfl (by rw [intsT_zero]; exact v_assign rfl) ?_
 refine x_end ?_
 refine t_norm ?_
 refine w_seq ?_
 refine w_seq ?_
 refine rg_text ?_
 refine x_val rfl rfl rfl (v_assign rfl) ?_
 refine x_end ?_
 refine t_norm ?_
 refine w_block ?_
 refine w_loop (σ := Nat) (fun k => k ≤ l.length) (fun k => [(0, Value.slice A0 l.length c0), (3, Value.string ⟨(intsT l k).toArray⟩), (4, Value.int .i64 (k : Nat))]) (fun k => []) (fun k => [(w, fun _ => True)]) (fun k => l.length - k) (0) (Nat.zero_le _) (l_start (by repeat (first | exact Sub.nil | refine Sub.cons rfl ?_)) (fun _ h => h)) ?_
 rintro k hk
 refine w_state ([(0, Value.slice A0 l.length c0), (3, Value.string ⟨(intsT l k).toArray⟩), (4, Value.int .i64 (k : Nat))]) ([]) ([(w, fun _ => True)]) ?_
 refine w_seq ?_
 refine w_seq ?_
 refine rg_text ?_
 refine x_val rfl rfl rfl (v_move rfl) ?_
 refine x_val rfl rfl rfl (v_move rfl) ?_
 refine x_val rfl rfl rfl (v_len_slice Tryz.underlying22 rfl) ?_
 refine x_bool rfl rfl rfl (v_lss rfl rfl) ?_
 intro b12 hb12
 refine x_end ?_
 refine t_norm ?_
 refine w_cond rfl (fun hc12 => ?_) (fun hc12 => ?_)
 ·simp only [hb12, Qz1, Qz2, Qz3, Qz4, Qz5, Qz6, Qz7, Qz8, Qz9, Qz0] at hc12
  have hkl : k < l.length := by omega
  obtain ⟨b0, o0, hA0, _, hc0, hk9⟩ := int_at h hkl
  have hz := intsT_len (by omega) hin k (by omega)
  have hz2 := numG_ten (sgn_lt hk9)
  refine w_skip ?_
  refine t_norm ?_
  refine w_seq ?_
  refine w_block ?_
  refine rg_text ?_
  refine x_val rfl rfl rfl (v_move rfl) ?_
  refine x_val rfl rfl rfl (v_move rfl) ?_
  refine x_val rfl rfl rfl (v_move rfl) ?_
  refine x_val rfl rfl rfl (v_indexAddr Tryz.underlying22 sz3 (congrArg (fun A => some (Value.slice A l.length c0)) hA0) rfl (by first | omega | (dsimp only; omega)) rfl) ?_
  refine x_val rfl rfl rfl (v_load Tryz.underlying3 rfl rfl (at_ro (.head _) trivial (by rw [Nat.mul_one]; exact hc0))) ?_
  refine x_callv (v := Value.int .u64 ((sgn l[k] : Nat) : Int)) rfl rfl rfl Tryz.func62 (by kernel_rfl) rfl (fun w1 hw1 => c_rSgn _ w1 hk9) ?_
  refine x_callv (v := Value.string ⟨(numG (sgn l[k])).toArray⟩) rfl rfl rfl Tryz.func59 (by kernel_rfl) rfl (fun w1 hw1 => c_rNum _ w1 (sgn_lt hk9)) ?_
  refine x_val rfl rfl rfl (v_saddL rfl rfl (by omega)) ?_
  refine x_val (v := Value.string ⟨(intsT l (k + 1)).toArray⟩) rfl rfl rfl (by rw [intsT_succ hkl]; exact v_assign rfl) ?_
  refine x_end ?_
  refine b_norm ?_
  refine t_norm ?_
  refine rg_text ?_
  refine x_val rfl rfl rfl (v_move rfl) ?_
  refine x_val rfl rfl rfl (v_addi rfl rfl rfl (by first | omega | (dsimp only; omega))) ?_
  refine x_val rfl rfl rfl (v_assign rfl) ?_
  refine x_end ?_
  exact l_norm (k + 1) (show k + 1 ≤ l.length by omega) (by omega) (by repeat (first | exact Sub.nil | refine Sub.cons rfl ?_)) (fun _ h => h)
 ·simp only [hb12, Qz1, Qz2, Qz3, Qz4, Qz5, Qz6, Qz7, Qz8, Qz9, Qz0] at hc12
  obtain rfl : k = l.length := by omega
  refine w_exit ?_
  refine t_exit ?_
  refine t_exit ?_
  refine b_hit ?_
  refine t_norm ?_
  refine w_seq ?_
  refine rg_text ?_
  refine x_val rfl rfl rfl (v_move rfl) ?_
  refine x_val rfl rfl rfl (v_assign rfl) ?_
  refine x_end ?_
  refine t_norm ?_
  refine w_ret ?_
  refine ret1 rfl rfl (fun w' hm => ⟨?_, hm.base (by simp)⟩)
  rw [intsT_all]
set_option maxRecDepth 100000 in
theorem c_rPack {D : Nat → Prop} {v : Value} {l : List ByteArray} (w : World) (h : sliceRd tyStr D w v l) (hll : l.length ≤ 1000000) (hsz : ∀ s ∈ l, s.size ≤ 2000000) :
  Calls Tryz.prog 24 #[v] w fun e w' => e = .returned (.string ⟨(packG l).toArray⟩) ∧ Later w w' := by
 obtain ⟨A0, c0, rfl, hlc, hmx, -⟩ := id h
 refine enter (vs := [Value.slice A0 l.length c0]) Tryz.func24 rfl Tryz.ntmps24 rfl ?_
 refine w_seq ?_
 refine rg_text ?_
 refine x_val rfl rfl rfl (v_assign rfl) ?_
 refine x_end ?_
 refine t_norm ?_
 refine w_seq ?_
 refine rg_text ?_
 refine x_val rfl rfl rfl (v_move rfl) ?_
 refine x_val rfl rfl rfl (v_len_slice Tryz.underlying55 rfl) ?_
 refine x_val rfl rfl rfl (v_convE (c := ((l.length : Nat) : Int)) Tryz.underlying3 Tryz.underlying107 rfl (u64_wrap (by omega))) ?_
 refine x_callv (v := Value.string ⟨(numG (l.length)).toArray⟩) rfl rfl rfl Tryz.func59 (by kernel_rfl) rfl (fun w1 hw1 => c_rNum _ w1 (by omega)) ?_
 refine x_val (v := Value.string ⟨(packT l 0).toArray⟩) rfl rfl rfl (by rw [packT_zero]; exact v_assign rfl) ?_
 refine x_end ?_
 refine t_norm ?_
 refine w_seq ?_
 refine w_seq ?_
 refine rg_text ?_
 refine x_val rfl rfl rfl (v_assign rfl) ?_
 refine x_end ?_
 refine t_norm ?_
 refine w_block ?_
 refine w_loop (σ := Nat) (fun k => k ≤ l.length) (fun k => [(0, Value.slice A0 l.length c0), (3, Value.string ⟨(packT l k).toArray⟩), (4, Value.int .i64 (k : Nat))]) (fun k => []) (fun k => [(w, fun _ => True)]) (fun k => l.length - k) (0) (Nat.zero_le _) (l_start (by repeat (first | exact Sub.nil | refine Sub.cons rfl ?_)) (fun _ h => h)) ?_
 rintro k hk
 refine w_state ([(0, Value.slice A0 l.length c0), (3, Value.string ⟨(packT l k).toArray⟩), (4, Value.int .i64 (k : Nat))]) ([]) ([(w, fun _ => True)]) ?_
 refine w_seq ?_
 refine w_seq ?_
 refine rg_text ?_
 refine x_val rfl rfl rfl (v_move rfl) ?_
 refine x_val rfl rfl rfl (v_move rfl) ?_
 refine x_val rfl rfl rfl (v_len_slice Tryz.underlying55 rfl) ?_
 refine x_bool rfl rfl rfl (v_lss rfl rfl) ?_
 intro b12 hb12
 refine x_end ?_
 refine t_norm ?_
 refine w_cond rfl (fun hc12 => ?_) (fun hc12 => ?_)
 ·simp only [hb12, Qz1, Qz2, Qz3, Qz4, Qz5, Qz6, Qz7, Qz8, Qz9, Qz0] at hc12
  have hkl : k < l.length := by omega
  obtain ⟨b0, o0, hA0, _, hc0, hk9⟩ := s_at h hkl
  have hz := packT_len (by omega) hsz (by decide) k (by omega)
  have hs9 := hsz _ (List.getElem_mem hkl)
  have hz2 := numG_ten (show l[k].size < 18446744073709551616 by omega)
  refine w_skip ?_
  refine t_norm ?_
  refine w_seq ?_
  refine w_block ?_
  refine rg_draw 15 [(true, 0), (true, 1), (true, 2), (true, 3), (true, 4), (true, 5), (true, 6), (true, 7), (true, 8), (true, 9), (true, 10), (true, 11), (true, 12), (true, 13), (true, 14)] (by kernel_rfl) (by kernel_rfl) ?_
  refine x_val rfl rfl rfl (v_move rfl) ?_
  refine x_val rfl rfl rfl (v_move rfl) ?_
  refine x_val rfl rfl rfl (v_move rfl) ?_
  refine x_val rfl rfl rfl (v_indexAddr Tryz.underlying55 sz9 (congrArg (fun A => some (Value.slice A l.length c0)) hA0) rfl (by first | omega | (dsimp only; omega)) rfl) ?_
  refine x_val rfl rfl rfl (v_load Tryz.underlying9 rfl rfl (at_ro (.head _) trivial (by rw [Nat.mul_one]; exact hc0))) ?_
  refine x_val rfl rfl rfl (v_len_str Tryz.underlying9 rfl) ?_
  refine x_val rfl rfl rfl (v_convE (c := ((l[k].size : Nat) : Int)) Tryz.underlying3 Tryz.underlying107 rfl (u64_wrap (by omega))) ?_
  refine x_callv (v := Value.string ⟨(numG (l[k].size)).toArray⟩) rfl rfl rfl Tryz.func59 (by kernel_rfl) rfl (fun w1 hw1 => c_rNum _ w1 (by omega)) ?_
  refine x_val rfl rfl rfl (v_saddL rfl rfl (by omega)) ?_
  refine x_val rfl rfl rfl (v_move rfl) ?_
  refine x_val rfl rfl rfl (v_move rfl) ?_
  refine x_val rfl rfl rfl (v_indexAddr Tryz.underlying55 sz9 (congrArg (fun A => some (Value.slice A l.length c0)) hA0) rfl (by first | omega | (dsimp only; omega)) rfl) ?_
  refine x_val rfl rfl rfl (v_load Tryz.underlying9 rfl rfl (at_ro (.head _) trivial (by rw [Nat.mul_one]; exact hc0))) ?_
  refine x_val (v := Value.string ⟨(packT l (k + 1)).toArray⟩) rfl rfl rfl (by rw [packT_succ hkl, ← List.append_assoc, mk_app]; exact v_sadd rfl rfl (by rw [mk_size, List.length_append]; omega)) ?_
  refine x_val rfl rfl rfl (v_assign rfl) ?_
  refine x_end ?_
  refine b_norm ?_
  refine t_norm ?_
  refine rg_text ?_
  refine x_val rfl rfl rfl (v_move rfl) ?_
  refine x_val rfl rfl rfl (v_addi rfl rfl rfl (by first | omega | (dsimp only; omega))) ?_
  refine x_val rfl rfl rfl (v_assign rfl) ?_
  refine x_end ?_
  exact l_norm (k + 1) (show k + 1 ≤ l.length by omega) (by omega) (by repeat (first | exact Sub.nil | refine Sub.cons rfl ?_)) (fun _ h => h)
 ·simp only [hb12, Qz1, Qz2, Qz3, Qz4, Qz5, Qz6, Qz7, Qz8, Qz9, Qz0] at hc12
  obtain rfl : k = l.length := by omega
  refine w_exit ?_
  refine t_exit ?_
  refine t_exit ?_
  refine b_hit ?_
  refine t_norm ?_
  refine w_seq ?_
  refine rg_text ?_
  refine x_val rfl rfl rfl (v_move rfl) ?_
  refine x_val rfl rfl rfl (v_assign rfl) ?_
  refine x_end ?_
  refine t_norm ?_
  refine w_ret ?_
  refine ret1 rfl rfl (fun w' hm => ⟨?_, hm.base (by simp)⟩)
  rw [packT_all]
set_option maxRecDepth 100000 in
theorem c_Ints {D : Nat → Prop} {v : Value} {l : List Int} (w : World) (h : sliceRd tyI D w v l) (hll : l.length ≤ 1000000) :
  Calls Tryz.prog 55 #[v] w fun e w' => e = .returned (.string ⟨(intsG l).toArray⟩) ∧ Later w w' := by
 obtain ⟨A0, c0, rfl, hlc, hmx, -⟩ := id h
 have hin : ∀ n ∈ l, -9223372036854775808 ≤ n ∧ n ≤ 9223372036854775807 := rd_in h
 refine enter (vs := [Value.slice A0 l.length c0]) Tryz.func55 rfl Tryz.ntmps55 rfl ?_
 refine w_seq ?_
 refine rg_text ?_
 refine x_val rfl rfl rfl (v_assign rfl) ?_
 refine x_end ?_
 refine t_norm ?_
 refine w_seq ?_
 refine rg_text ?_
 refine x_alloc rfl rfl rfl zr130 ?_
 intro p3
 refine x_end ?_
 refine t_norm ?_
 refine w_seq ?_
 refine rg_text ?_
 refine x_val rfl rfl rfl (v_move rfl) ?_
 refine x_val rfl rfl rfl (v_len_slice Tryz.underlying22 rfl) ?_
 refine x_val rfl rfl rfl (v_convE (c := ((l.length : Nat) : Int)) Tryz.underlying3 Tryz.underlying107 rfl (u64_wrap (by omega))) ?_
 refine x_callv (v := Value.string ⟨(numG (l.length)).toArray⟩) rfl rfl rfl Tryz.func82 (by kernel_rfl) rfl (fun w1 hw1 => c_Num _ w1 (by omega)) ?_
 refine x_turnf (τ := RowS) (v := .tuple #[.int .i64 ((numG l.length).length : Nat), .nilIface]) (fun r' => rowOK 1 r' ([] ++ numG l.length).length (byC ([] ++ numG l.length))) (fun r' => (bld2 130 5 p3 (.pointer (some ⟨p3, 0, none⟩)) r' (([] ++ numG l.length).length)) ++ []) rfl rfl Tryz.func81 (by kernel_rfl) rfl (fun w1 hw1 => by
  have h := c_WS (l2 := []) (bs := []) (r := none) (pp := (.pointer none)) w1 (hw1.to (by first | rfl | simp [bld2, rowO])) (p := p3) (.inl rfl) ⟨(numG l.length).toArray⟩ rowOK_nil (by have := numG_ten (n := l.length) (by omega); (try show (0 : Nat) ≤ 4000000000000); omega) (by rw [mk_size]; have := numG_ten (n := l.length) (by omega); (try show (0 : Nat) ≤ 4000000000000); omega)
  rw [bl_mk, mk_size] at h
  exact h.mono fun e w2 ⟨h1, r', h2, h3⟩ => ⟨h1, r', h2, h3⟩) ?_
 intro r10 hr10
 rw [List.nil_append] at hr10
 refine x_end ?_
 refine t_norm ?_
 refine w_seq ?_
 refine w_seq ?_
 refine rg_text ?_
 refine x_val rfl rfl rfl (v_move rfl) ?_
 refine x_val rfl rfl rfl (v_len_slice Tryz.underlying22 rfl) ?_
 refine x_val rfl rfl rfl (v_move rfl) ?_
 refine x_end ?_
 refine t_norm ?_
 refine w_block ?_
 refine w_loop (σ := Nat × RowS) (fun x => x.1 ≤ l.length ∧ rowOK 1 x.2 (intsT l x.1).length (byC (intsT l x.1))) (fun x => [(3, Value.pointer (some ⟨p3, 0, none⟩)), (11, Value.slice A0 l.length c0), (12, Value.int .i64 (l.length : Nat)), (13, Value.int .i64 (x.1 : Nat))]) (fun x => (bld2 130 5 p3 (.pointer (some ⟨p3, 0, none⟩)) x.2 ((intsT l x.1).length)) ++ []) (fun x => [(w, fun _ => True)]) (fun x => l.length - x.1) ((0, r10)) (⟨Nat.zero_le _, by dsimp only; rw [intsT_zero]; exact hr10⟩) (l_start (by repeat (first | exact Sub.nil | refine Sub.cons rfl ?_)) (fun _ h => by rw [intsT_zero]; exact h)) ?_
 rintro ⟨k, r⟩ ⟨hk, hr⟩
 refine w_state ([(3, Value.pointer (some ⟨p3, 0, none⟩)), (11, Value.slice A0 l.length c0), (12, Value.int .i64 (l.length : Nat)), (13, Value.int .i64 (k : Nat))]) ((bld2 130 5 p3 (.pointer (some ⟨p3, 0, none⟩)) r ((intsT l k).length)) ++ []) ([(w, fun _ => True)]) ?_
 dsimp only at hk hr
 refine w_seq ?_
 refine rg_text ?_
 refine x_bool rfl rfl rfl (v_lss rfl rfl) ?_
 intro b14 hb14
 refine x_end ?_
 refine t_norm ?_
 refine w_seq ?_
 refine w_cond rfl (fun hc14 => ?_) (fun hc14 => ?_)
 ·simp only [hb14, Qz1, Qz2, Qz3, Qz4, Qz5, Qz6, Qz7, Qz8, Qz9, Qz0] at hc14
  have hkl : k < l.length := by omega
  obtain ⟨b0, o0, hA0, _, hc0, hk9⟩ := int_at h hkl
  have hz := intsT_len (by omega) hin k (by omega)
  have hz2 := numG_ten (sgn_lt hk9)
  refine w_skip ?_
  refine t_norm ?_
  refine w_seq ?_
  refine w_block ?_
  refine w_seq ?_
  refine rg_text ?_
  refine x_val rfl rfl rfl (v_indexAddr Tryz.underlying22 sz3 (congrArg (fun A => some (Value.slice A l.length c0)) hA0) rfl (by first | omega | (dsimp only; omega)) rfl) ?_
  refine x_val rfl rfl rfl (v_load Tryz.underlying3 rfl rfl (at_ro (.head _) trivial (by rw [Nat.mul_one]; exact hc0))) ?_
  refine x_val rfl rfl rfl (v_assign rfl) ?_
  refine x_end ?_
  refine t_norm ?_
  refine rg_text ?_
  refine x_val rfl rfl rfl (v_move rfl) ?_
  refine x_callv (v := Value.int .u64 ((sgn l[k] : Nat) : Int)) rfl rfl rfl Tryz.func84 (by kernel_rfl) rfl (fun w1 hw1 => c_Sgn _ w1 hk9) ?_
  refine x_callv (v := Value.string ⟨(numG (sgn l[k])).toArray⟩) rfl rfl rfl Tryz.func82 (by kernel_rfl) rfl (fun w1 hw1 => c_Num _ w1 (sgn_lt hk9)) ?_
  refine x_turnf (τ := RowS) (v := .tuple #[.int .i64 ((numG (sgn l[k])).length : Nat), .nilIface]) (fun r' => rowOK 1 r' ((intsT l k) ++ numG (sgn l[k])).length (byC ((intsT l k) ++ numG (sgn l[k])))) (fun r' => (bld2 130 5 p3 (.pointer (some ⟨p3, 0, none⟩)) r' (((intsT l k) ++ numG (sgn l[k])).length)) ++ []) rfl rfl Tryz.func81 (by kernel_rfl) rfl (fun w1 hw1 => by
   have h := c_WS (l2 := []) (bs := (intsT l k)) (r := r) (pp := (.pointer (some ⟨p3, 0, none⟩))) w1 (hw1.to (by first | rfl | simp [bld2, rowO])) (p := p3) (.inr rfl) ⟨(numG (sgn l[k])).toArray⟩ hr (by omega) (by rw [mk_size]; omega)
   rw [bl_mk, mk_size] at h
   exact h.mono fun e w2 ⟨h1, r', h2, h3⟩ => ⟨h1, r', h2, h3⟩) ?_
  intro r20 hr20
  refine x_end ?_
  refine b_norm ?_
  refine t_norm ?_
  refine rg_text ?_
  refine x_val rfl rfl rfl (v_addi rfl rfl rfl (by first | omega | (dsimp only; omega))) ?_
  refine x_val rfl rfl rfl (v_move rfl) ?_
  refine x_end ?_
  exact l_norm (x := (k, r)) (μ := fun q : Nat × RowS => l.length - q.1) (k + 1, r20) ⟨by dsimp only; omega, by dsimp only; rw [intsT_succ hkl]; exact hr20⟩ (by simp only; omega) (by repeat (first | exact Sub.nil | refine Sub.cons rfl ?_)) (fun _ h => by rw [intsT_succ hkl]; exact h)
 ·simp only [hb14, Qz1, Qz2, Qz3, Qz4, Qz5, Qz6, Qz7, Qz8, Qz9, Qz0] at hc14
  refine w_exit ?_
  refine t_exit ?_
  refine t_exit ?_
  refine b_hit ?_
  refine t_norm ?_
  refine w_seq ?_
  refine rg_text ?_
  obtain rfl : k = l.length := by omega
  rw [intsT_all] at hr
  refine x_turnf (τ := Unit) (v := .string ⟨(intsG l).toArray⟩) (fun _ => True) (fun _ => []) rfl rfl Tryz.func83 (by kernel_rfl) rfl (fun w1 hw1 => (c_BS (l2 := []) (bs := intsG l) w1 (hw1.to (by rw [intsT_all])) (p := p3) (.inr rfl) hr (B := w.heap.size) (fun q hq => by rw [List.mem_singleton.1 hq]; exact Nat.le_refl _) (fun q hq => by cases hq) (fun q hq => hw1.newer (by simp) (by rw [intsT_all]; exact List.mem_append_left _ hq)) (hw1.base (by simp)).size).mono fun e w2 h => ⟨h.1, (), trivial, h.2⟩) ?_
  intro _ _
  refine x_val rfl rfl rfl (v_assign rfl) ?_
  refine x_end ?_
  refine t_norm ?_
  refine w_ret ?_
  refine ret1 rfl rfl (fun w' hm => ⟨?_, hm.base (by simp)⟩)
  rfl
set_option maxRecDepth 100000 in
theorem c_Pack {D : Nat → Prop} {v : Value} {l : List ByteArray} (w : World) (h : sliceRd tyStr D w v l) (hll : l.length ≤ 1000000) (hsz : ∀ s ∈ l, s.size ≤ 2000000) :
  Calls Tryz.prog 53 #[v] w fun e w' => e = .returned (.string ⟨(packG l).toArray⟩) ∧ Later w w' := by
 obtain ⟨A0, c0, rfl, hlc, hmx, -⟩ := id h
 refine enter (vs := [Value.slice A0 l.length c0]) Tryz.func53 rfl Tryz.ntmps53 rfl ?_
 refine w_seq ?_
 refine rg_text ?_
 refine x_val rfl rfl rfl (v_assign rfl) ?_
 refine x_end ?_
 refine t_norm ?_
 refine w_seq ?_
 refine rg_text ?_
 refine x_alloc rfl rfl rfl zr130 ?_
 intro p3
 refine x_end ?_
 refine t_norm ?_
 refine w_seq ?_
 refine rg_text ?_
 refine x_val rfl rfl rfl (v_move rfl) ?_
 refine x_val rfl rfl rfl (v_len_slice Tryz.underlying55 rfl) ?_
 refine x_val rfl rfl rfl (v_convE (c := ((l.length : Nat) : Int)) Tryz.underlying3 Tryz.underlying107 rfl (u64_wrap (by omega))) ?_
 refine x_callv (v := Value.string ⟨(numG (l.length)).toArray⟩) rfl rfl rfl Tryz.func82 (by kernel_rfl) rfl (fun w1 hw1 => c_Num _ w1 (by omega)) ?_
 refine x_turnf (τ := RowS) (v := .tuple #[.int .i64 ((numG l.length).length : Nat), .nilIface]) (fun r' => rowOK 1 r' ([] ++ numG l.length).length (byC ([] ++ numG l.length))) (fun r' => (bld2 130 5 p3 (.pointer (some ⟨p3, 0, none⟩)) r' (([] ++ numG l.length).length)) ++ []) rfl rfl Tryz.func81 (by kernel_rfl) rfl (fun w1 hw1 => by
  have h := c_WS (l2 := []) (bs := []) (r := none) (pp := (.pointer none)) w1 (hw1.to (by first | rfl | simp [bld2, rowO])) (p := p3) (.inl rfl) ⟨(numG l.length).toArray⟩ rowOK_nil (by have := numG_ten (n := l.length) (by omega); (try show (0 : Nat) ≤ 4000000000000); omega) (by rw [mk_size]; have := numG_ten (n := l.length) (by omega); (try show (0 : Nat) ≤ 4000000000000); omega)
  rw [bl_mk, mk_size] at h
  exact h.mono fun e w2 ⟨h1, r', h2, h3⟩ => ⟨h1, r', h2, h3⟩) ?_
 intro r10 hr10
 rw [List.nil_append] at hr10
 refine x_end ?_
 refine t_norm ?_
 refine w_seq ?_
 refine w_seq ?_
 refine rg_text ?_
 refine x_val rfl rfl rfl (v_move rfl) ?_
 refine x_val rfl rfl rfl (v_len_slice Tryz.underlying55 rfl) ?_
 refine x_val rfl rfl rfl (v_move rfl) ?_
 refine x_end ?_
 refine t_norm ?_
 refine w_block ?_
 refine w_loop (σ := Nat × RowS) (fun x => x.1 ≤ l.length ∧ rowOK 1 x.2 (packT l x.1).length (byC (packT l x.1))) (fun x => [(3, Value.pointer (some ⟨p3, 0, none⟩)), (11, Value.slice A0 l.length c0), (12, Value.int .i64 (l.length : Nat)), (13, Value.int .i64 (x.1 : Nat))]) (fun x => (bld2 130 5 p3 (.pointer (some ⟨p3, 0, none⟩)) x.2 ((packT l x.1).length)) ++ []) (fun x => [(w, fun _ => True)]) (fun x => l.length - x.1) ((0, r10)) (⟨Nat.zero_le _, by dsimp only; rw [packT_zero]; exact hr10⟩) (l_start (by repeat (first | exact Sub.nil | refine Sub.cons rfl ?_)) (fun _ h => by rw [packT_zero]; exact h)) ?_
 rintro ⟨k, r⟩ ⟨hk, hr⟩
 refine w_state ([(3, Value.pointer (some ⟨p3, 0, none⟩)), (11, Value.slice A0 l.length c0), (12, Value.int .i64 (l.length : Nat)), (13, Value.int .i64 (k : Nat))]) ((bld2 130 5 p3 (.pointer (some ⟨p3, 0, none⟩)) r ((packT l k).length)) ++ []) ([(w, fun _ => True)]) ?_
 dsimp only at hk hr
 refine w_seq ?_
 refine rg_text ?_
 refine x_bool rfl rfl rfl (v_lss rfl rfl) ?_
 intro b14 hb14
 refine x_end ?_
 refine t_norm ?_
 refine w_seq ?_
 refine w_cond rfl (fun hc14 => ?_) (fun hc14 => ?_)
 ·simp only [hb14, Qz1, Qz2, Qz3, Qz4, Qz5, Qz6, Qz7, Qz8, Qz9, Qz0] at hc14
  have hkl : k < l.length := by omega
  obtain ⟨b0, o0, hA0, _, hc0, hk9⟩ := s_at h hkl
  have hz := packT_len (by omega) hsz (by decide) k (by omega)
  have hs9 := hsz _ (List.getElem_mem hkl)
  have hz2 := numG_ten (show l[k].size < 18446744073709551616 by omega)
  refine w_skip ?_
  refine t_norm ?_
  refine w_seq ?_
  refine w_block ?_
  refine w_seq ?_
  refine rg_text ?_
  refine x_val rfl rfl rfl (v_indexAddr Tryz.underlying55 sz9 (congrArg (fun A => some (Value.slice A l.length c0)) hA0) rfl (by first | omega | (dsimp only; omega)) rfl) ?_
  refine x_val rfl rfl rfl (v_load Tryz.underlying9 rfl rfl (at_ro (.head _) trivial (by rw [Nat.mul_one]; exact hc0))) ?_
  refine x_val rfl rfl rfl (v_assign rfl) ?_
  refine x_end ?_
  refine t_norm ?_
  refine rg_text ?_
  refine x_val rfl rfl rfl (v_move rfl) ?_
  refine x_val rfl rfl rfl (v_len_str Tryz.underlying9 rfl) ?_
  refine x_val rfl rfl rfl (v_convE (c := ((l[k].size : Nat) : Int)) Tryz.underlying3 Tryz.underlying107 rfl (u64_wrap (by omega))) ?_
  refine x_callv (v := Value.string ⟨(numG (l[k].size)).toArray⟩) rfl rfl rfl Tryz.func82 (by kernel_rfl) rfl (fun w1 hw1 => c_Num _ w1 (by omega)) ?_
  refine x_val rfl rfl rfl (v_move rfl) ?_
  refine x_val (v := Value.string ⟨(numG l[k].size ++ bl l[k]).toArray⟩) rfl rfl rfl (by rw [mk_app]; exact v_sadd rfl rfl (by rw [mk_size]; omega)) ?_
  refine x_turnf (τ := RowS) (v := .tuple #[.int .i64 (((numG l[k].size ++ bl l[k])).length : Nat), .nilIface]) (fun r' => rowOK 1 r' ((packT l k) ++ (numG l[k].size ++ bl l[k])).length (byC ((packT l k) ++ (numG l[k].size ++ bl l[k])))) (fun r' => (bld2 130 5 p3 (.pointer (some ⟨p3, 0, none⟩)) r' (((packT l k) ++ (numG l[k].size ++ bl l[k])).length)) ++ []) rfl rfl Tryz.func81 (by kernel_rfl) rfl (fun w1 hw1 => by
   have h := c_WS (l2 := []) (bs := (packT l k)) (r := r) (pp := (.pointer (some ⟨p3, 0, none⟩))) w1 (hw1.to (by first | rfl | simp [bld2, rowO])) (p := p3) (.inr rfl) ⟨((numG l[k].size ++ bl l[k])).toArray⟩ hr (by (try simp only [List.length_append, bl_len]); omega) (by rw [mk_size]; (try simp only [List.length_append, bl_len]); omega)
   rw [bl_mk, mk_size] at h
   exact h.mono fun e w2 ⟨h1, r', h2, h3⟩ => ⟨h1, r', h2, h3⟩) ?_
  intro r23 hr23
  refine x_end ?_
  refine b_norm ?_
  refine t_norm ?_
  refine rg_text ?_
  refine x_val rfl rfl rfl (v_addi rfl rfl rfl (by first | omega | (dsimp only; omega))) ?_
  refine x_val rfl rfl rfl (v_move rfl) ?_
  refine x_end ?_
  exact l_norm (x := (k, r)) (μ := fun q : Nat × RowS => l.length - q.1) (k + 1, r23) ⟨by dsimp only; omega, by dsimp only; rw [packT_succ hkl]; exact hr23⟩ (by simp only; omega) (by repeat (first | exact Sub.nil | refine Sub.cons rfl ?_)) (fun _ h => by rw [packT_succ hkl]; exact h)
 ·simp only [hb14, Qz1, Qz2, Qz3, Qz4, Qz5, Qz6, Qz7, Qz8, Qz9, Qz0] at hc14
  refine w_exit ?_
  refine t_exit ?_
  refine t_exit ?_
  refine b_hit ?_
  refine t_norm ?_
  refine w_seq ?_
  refine rg_text ?_
  obtain rfl : k = l.length := by omega
  rw [packT_all] at hr
  refine x_turnf (τ := Unit) (v := .string ⟨(packG l).toArray⟩) (fun _ => True) (fun _ => []) rfl rfl Tryz.func83 (by kernel_rfl) rfl (fun w1 hw1 => (c_BS (l2 := []) (bs := packG l) w1 (hw1.to (by rw [packT_all])) (p := p3) (.inr rfl) hr (B := w.heap.size) (fun q hq => by rw [List.mem_singleton.1 hq]; exact Nat.le_refl _) (fun q hq => by cases hq) (fun q hq => hw1.newer (by simp) (by rw [packT_all]; exact List.mem_append_left _ hq)) (hw1.base (by simp)).size).mono fun e w2 h => ⟨h.1, (), trivial, h.2⟩) ?_
  intro _ _
  refine x_val rfl rfl rfl (v_assign rfl) ?_
  refine x_end ?_
  refine t_norm ?_
  refine w_ret ?_
  refine ret1 rfl rfl (fun w' hm => ⟨?_, hm.base (by simp)⟩)
  rfl

end Go.Proofs.YtaniaihoodgmpaaGreatDoor

namespace Go.Proofs.YtaniaihoodgmpaaGreatDoor
open Go.RowKit Go.PK
set_option linter.unusedVariables false
set_option linter.unusedSimpArgs false
theorem rdE_in {D : Nat → Prop} {w : World} {A : Option Addr} {l c : Nat} {xs : List Ent} (h : sliceRd tyEnt D w (.slice A l c) xs) : ∀ x ∈ xs, entIn x := fun d hd => by
 obtain ⟨j, hj, rfl⟩ := List.getElem_of_mem hd
 obtain ⟨_, _, _, _, _, h1⟩ := ent_at h hj
 exact h1
set_option maxHeartbeats 1000000 in
set_option maxRecDepth 100000 in
theorem c_Enc {v1 v2 v3 : Value} {bs : Nat} (p : Pat) (es : List Ent) (w : World) (hS : SerRd w bs p es v1 v2 v3) (hlen : es.length ≤ 1000) (hL : LD w) :
  Calls Tryz.prog 21 #[.pointer (some ⟨bs, 0, none⟩)] w fun e w' => e = .returned (.string (encQ p es)) ∧ Later w w' := by
 obtain ⟨A1, c1, rfl, hlc1, hmx1, hB1⟩ := id hS.lvs
 obtain ⟨A2, c2, rfl, hlc2, hmx2, hB2⟩ := id hS.sts
 obtain ⟨A3, c3, rfl, hlc3, hmx3, hB3⟩ := id hS.ent
 refine enter (vs := [.pointer (some ⟨bs, 0, none⟩)]) Tryz.func21 rfl Tryz.ntmps21 rfl ?_
 refine w_seq ?_
 refine rg_text ?_
 refine x_val rfl rfl rfl (v_assign rfl) ?_
 refine x_end ?_
 refine t_norm ?_
 refine w_seq ?_
 refine w_seq ?_
 refine rg_text ?_
 refine x_val rfl rfl rfl (v_move rfl) ?_
 refine x_bool rfl rfl rfl (v_pnil (o := some ⟨bs, 0, none⟩) Tryz.underlying28 rfl rfl) ?_
 intro b8 hb8
 refine x_end ?_
 refine t_norm ?_
 refine w_cond rfl (fun hc8 => ?_) (fun hc8 => ?_)
 ·simp [hb8] at hc8
 ·skip
  refine w_skip ?_
  refine t_norm ?_
  refine w_seq ?_
  refine rg_text ?_
  refine x_val rfl rfl rfl (v_assign rfl) ?_
  refine x_end ?_
  refine t_norm ?_
  refine w_seq ?_
  refine w_seq ?_
  refine rg_text ?_
  refine x_val rfl rfl rfl (v_move rfl) ?_
  refine x_val rfl rfl rfl (v_nilCheck rfl) ?_
  refine x_val rfl rfl rfl (v_fieldAddr (off' := 4) Tryz.underlying61 rfl sz59 (by decide) rfl rfl) ?_
  refine x_val rfl rfl rfl (v_load Tryz.underlying59 rfl rfl (at_ro (.head _) trivial (hS.cells 4 (by simp)))) ?_
  refine x_val rfl rfl rfl (v_len_slice Tryz.underlying59 rfl) ?_
  refine x_val rfl rfl rfl (v_move rfl) ?_
  refine x_end ?_
  refine t_norm ?_
  refine w_block ?_
  refine w_loop (σ := Nat × RowS) (fun x => x.1 ≤ es.length ∧ rowOK 1 x.2 (x.1 * 4) ((entsI (es.take x.1)).map (Value.int .i64))) (fun x => [(0, .pointer (some ⟨bs, 0, none⟩)), (3, rowV x.2 (x.1 * 4)), (12, .slice A3 es.length c3), (13, Value.int .i64 (es.length : Nat)), (14, Value.int .i64 (x.1 : Nat))]) (fun x => rowO 3 x.2) (fun x => [(w, fun _ => True)]) (fun x => es.length - x.1) ((0, none)) (⟨Nat.zero_le _, rowOK_nil⟩) (l_start (by repeat (first | exact Sub.nil | refine Sub.cons rfl ?_)) (fun _ h => h)) ?_
  rintro ⟨k, R⟩ ⟨hk, hR⟩
  refine w_state ([(0, .pointer (some ⟨bs, 0, none⟩)), (3, rowV R (k * 4)), (12, .slice A3 es.length c3), (13, Value.int .i64 (es.length : Nat)), (14, Value.int .i64 (k : Nat))]) (rowO 3 R) ([(w, fun _ => True)]) ?_
  dsimp only at hk hR
  refine w_seq ?_
  refine rg_text ?_
  refine x_bool rfl rfl rfl (v_lss rfl rfl) ?_
  intro b15 hb15
  refine x_end ?_
  refine t_norm ?_
  refine w_seq ?_
  refine w_cond rfl (fun hc15 => ?_) (fun hc15 => ?_)
  ·simp only [hb15, Qz1, Qz2, Qz3, Qz4, Qz5, Qz6, Qz7, Qz8, Qz9, Qz0] at hc15
   have hkl : k < es.length := by omega
   obtain ⟨b0, o0, hA0, _, hc0, hin0⟩ := ent_at hS.ent hkl
   obtain ⟨e1, e2, e3⟩ := id hin0
   refine w_skip ?_
   refine t_norm ?_
   refine w_seq ?_
   refine w_block ?_
   refine w_seq ?_
   refine rg_text ?_
   refine x_val rfl rfl rfl (v_indexAddr Tryz.underlying59 sz85 (congrArg (fun A => some (Value.slice A es.length c3)) hA0) rfl (by first | omega | (dsimp only; omega)) rfl) ?_
   refine x_val rfl rfl rfl (v_loadN (vs := entC es[k]) Tryz.underlying85 rfl sz85 rfl (fun j hj => at_ro (.head _) trivial (hc0 j hj))) ?_
   refine x_alloc rfl rfl rfl zr85 ?_
   intro p5
   refine x_store0 [] rfl rfl rfl rfl sz85 rfl rfl ?_
   refine x_end ?_
   refine t_norm ?_
   refine w_seq ?_
   refine rg_text ?_
   refine x_val rfl rfl rfl (v_assign rfl) ?_
   refine x_end ?_
   refine t_norm ?_
   refine w_seq_cut (σ := Int) (fun z => z = if es[k].sk then 1 else 0) (fun z => [(0, .pointer (some ⟨bs, 0, none⟩)), (3, rowV R (k * 4)), (5, .pointer (some ⟨p5, 0, none⟩)), (6, Value.int .i64 z), (12, .slice A3 es.length c3), (13, Value.int .i64 (es.length : Nat)), (14, Value.int .i64 (k : Nat))]) (fun z => (p5, Obj.cells (entC es[k]).toArray 85 (0, 0)) :: rowO 3 R) (fun z => [(w, fun _ => True)]) ?_ ?_
   ·refine w_seq ?_
    refine rg_text ?_
    refine x_val rfl rfl rfl (v_fieldAddr (off' := 2) Tryz.underlying85 rfl sz4 (by decide) rfl rfl) ?_
    refine x_bool rfl rfl rfl (v_load Tryz.underlying4 rfl rfl (at_ownL (vs := entC es[k]) (.head _) rfl)) ?_
    intro b19 hb19
    refine x_end ?_
    refine t_norm ?_
    refine w_cond rfl (fun hc19 => ?_) (fun hc19 => ?_)
    ·have hsk : es[k].sk = true := hb19.symm.trans hc19
     refine rg_text ?_
     refine x_val rfl rfl rfl (v_assign rfl) ?_
     refine x_end ?_
     exact c_norm 1 (by rw [hsk]; rfl) (by repeat (first | exact Sub.nil | refine Sub.cons rfl ?_)) (fun _ h => h)
    ·have hsk : es[k].sk = false := hb19.symm.trans hc19
     refine w_skip ?_
     exact c_norm 0 (by rw [hsk]; rfl) (by repeat (first | exact Sub.nil | refine Sub.cons rfl ?_)) (fun _ h => h)
   ·rintro z hz
    refine w_state ([(0, .pointer (some ⟨bs, 0, none⟩)), (3, rowV R (k * 4)), (5, .pointer (some ⟨p5, 0, none⟩)), (6, Value.int .i64 z), (12, .slice A3 es.length c3), (13, Value.int .i64 (es.length : Nat)), (14, Value.int .i64 (k : Nat))]) ((p5, Obj.cells (entC es[k]).toArray 85 (0, 0)) :: rowO 3 R) ([(w, fun _ => True)]) ?_
    refine rg_text ?_
    refine x_val rfl rfl rfl (v_move rfl) ?_
    refine x_val rfl rfl rfl (v_fieldAddr (off' := 0) Tryz.underlying85 rfl sz3 (by decide) rfl rfl) ?_
    refine x_val rfl rfl rfl (v_load Tryz.underlying3 rfl rfl (at_ownL (vs := entC es[k]) (.head _) rfl)) ?_
    refine x_val rfl rfl rfl (v_fieldAddr (off' := 1) Tryz.underlying85 rfl sz3 (by decide) rfl rfl) ?_
    refine x_val rfl rfl rfl (v_load Tryz.underlying3 rfl rfl (at_ownL (vs := entC es[k]) (.head _) rfl)) ?_
    refine x_val rfl rfl rfl (v_move rfl) ?_
    refine x_val rfl rfl rfl (v_fieldAddr (off' := 3) Tryz.underlying85 rfl sz3 (by decide) rfl rfl) ?_
    refine x_val rfl rfl rfl (v_load Tryz.underlying3 rfl rfl (at_ownL (vs := entC es[k]) (.head _) rfl)) ?_
    refine x_buildSliceL (cs := [Value.int .i64 es[k].fr, Value.int .i64 es[k].to, Value.int .i64 z, Value.int .i64 es[k].day]) rfl rfl rfl Tryz.underlying22 sz3 zr3 rfl rfl rfl ?_
    intro p28
    refine x_append (e := 3) [(p28, Obj.cells ([Value.int .i64 es[k].fr, Value.int .i64 es[k].to, Value.int .i64 z, Value.int .i64 es[k].day]).toArray 3 (0, 0)), (p5, Obj.cells (entC es[k]).toArray 85 (0, 0))] (l2 := []) R (len := k * 4) (xs := (entsI (es.take k)).map (Value.int .i64)) rfl rfl rfl rfl (by simp only [List.append_nil]; rfl) hR Tryz.underlying22 ap3 rfl rfl (m := 4) (news := [Value.int .i64 es[k].fr, Value.int .i64 es[k].to, Value.int .i64 z, Value.int .i64 es[k].day]) (fun i hi => at_ownL (vs := [Value.int .i64 es[k].fr, Value.int .i64 es[k].to, Value.int .i64 z, Value.int .i64 es[k].day]) (.head _) (by rw [Nat.zero_add]; exact List.getElem?_eq_getElem hi)) rfl (by simp only [maxLen]; omega) (by omega) ?_
    intro R' hR'
    rw [List.append_nil]
    refine x_val rfl rfl rfl (v_assign rfl) ?_
    refine x_end ?_
    refine b_norm ?_
    refine t_norm ?_
    refine rg_text ?_
    refine x_val rfl rfl rfl (v_addi rfl rfl rfl (by first | omega | (dsimp only; omega))) ?_
    refine x_val rfl rfl rfl (v_move rfl) ?_
    refine x_end ?_
    exact l_norm (x := (k, R)) (μ := fun q : Nat × RowS => es.length - q.1) (k + 1, R') ⟨by dsimp only; omega, by dsimp only; rw [entsI_snoc hkl, List.map_append, show (k + 1) * 4 = k * 4 + 4 by omega]; subst hz; exact hR'⟩ (by simp only; omega) (by dsimp only; rw [show (k + 1) * 4 = k * 4 + 4 by omega]; exact (by repeat (first | exact Sub.nil | refine Sub.cons rfl ?_))) (fun w1 h => h.less (((List.Sublist.refl _).cons _).cons _) (fun _ h => h))
  ·simp only [hb15, Qz1, Qz2, Qz3, Qz4, Qz5, Qz6, Qz7, Qz8, Qz9, Qz0] at hc15
   obtain rfl : k = es.length := by omega
   rw [List.take_length] at hR
   have hin9 := entsI_in (rdE_in hS.ent)
   have hln9 := entsI_len es
   refine w_exit ?_
   refine t_exit ?_
   refine t_exit ?_
   refine b_hit ?_
   refine t_norm ?_
   refine w_seq ?_
   refine rg_text ?_
   refine x_val rfl rfl rfl (v_move rfl) ?_
   refine x_val rfl rfl rfl (v_nilCheck rfl) ?_
   refine x_val rfl rfl rfl (v_fieldAddr (off' := 0) Tryz.underlying61 rfl sz26 (by decide) rfl rfl) ?_
   refine x_val rfl rfl rfl (v_loadN (vs := ([Value.int .i64 p.first, Value.int .i64 p.days, Value.slice A1 p.lv.length c1, Value.slice A2 p.st.length c2, Value.slice A3 es.length c3]).take 4) Tryz.underlying26 rfl sz26 rfl (fun j hj => at_ro (.head _) trivial (by match j, hj with | 0, _ => exact hS.cells 0 (by simp) | 1, _ => exact hS.cells 1 (by simp) | 2, _ => exact hS.cells 2 (by simp) | 3, _ => exact hS.cells 3 (by simp)))) ?_
   refine x_callv rfl rfl rfl Tryz.func54 (by kernel_rfl) rfl (fun w1 hw1 => c_Write p w1 (patRd.keep (⟨hS.fst, hS.dys, hS.lvs, hS.sts⟩ : patRd (fun _ => True) w p (.slice A1 p.lv.length c1) (.slice A2 p.st.length c2)) (Kept.later (hw1.base (by simp)))) (hL.later (hw1.base (by simp)))) ?_
   refine x_val rfl rfl rfl (v_move rfl) ?_
   refine x_callv (v := Value.string ⟨(intsG (entsI es)).toArray⟩) rfl rfl rfl Tryz.func55 (by kernel_rfl) rfl (fun w1 hw1 => c_Ints w1 (rowI_rd (D := fun _ => True) (e := 3) hR hln9.symm hin9 hw1 (fun q hq => hq) (fun _ _ => trivial)) (by rw [hln9]; omega)) ?_
   refine x_buildSliceL (cs := [Value.string (writeQ p), Value.string ⟨(intsG (entsI es)).toArray⟩]) rfl rfl rfl Tryz.underlying55 sz9 zr9 rfl rfl rfl ?_
   intro p38
   have hz1 : (writeQ p).size ≤ 2000000 := by
    by_cases hq : rightQ p
    ·have := wr_sz hq; omega
    ·unfold writeQ; rw [if_neg hq]; decide
   have hz2 : (⟨(intsG (entsI es)).toArray⟩ : ByteArray).size ≤ 2000000 := by
    rw [mk_size, ← intsT_all]
    have := intsT_len (l := entsI es) (by omega) hin9 _ (Nat.le_refl _)
    omega
   refine x_callv (v := Value.string (encQ p es)) rfl rfl rfl Tryz.func53 (by kernel_rfl) rfl (fun w1 hw1 => c_Pack (l := [writeQ p, ⟨(intsG (entsI es)).toArray⟩]) (D := fun _ => True) w1 (row1_rd (T := tyStr) (e := 9) (r := some (p38, [writeQ p, ⟨(intsG (entsI es)).toArray⟩].map Value.string, 2)) Value.string rfl (rowOK_lit rfl (by simp [maxLen])) rfl (fun D9 w9 s hs => ⟨rfl, by unfold okS; rcases List.mem_cons.1 hs with rfl | hs; (· omega); rw [List.mem_singleton.1 hs]; omega⟩) hw1 (fun q hq => by rw [show q = _ from List.mem_singleton.1 hq]; exact .head _) (fun _ _ => trivial)) (by simp) (fun s hs => by rcases List.mem_cons.1 hs with rfl | hs; (· exact hz1); rw [List.mem_singleton.1 hs]; exact hz2)) ?_
   refine x_val rfl rfl rfl (v_assign rfl) ?_
   refine x_end ?_
   refine t_norm ?_
   refine w_ret ?_
   refine ret1 rfl rfl (fun w' hm => ⟨?_, hm.base (by simp)⟩)
   rfl
end Go.Proofs.YtaniaihoodgmpaaGreatDoor

namespace Go.Proofs.YtaniaihoodgmpaaGreatDoor
open Go.RowKit Go.PK
set_option linter.unusedVariables false
set_option linter.unusedSimpArgs false
end Go.Proofs.YtaniaihoodgmpaaGreatDoor

namespace Go.Proofs.YtaniaihoodgmpaaGreatDoor
open Go.RowKit Go.PK
set_option linter.unusedVariables false
set_option linter.unusedSimpArgs false
theorem ap91 : (Tryz.prog.info? 91).map (fun j => (j.zero, j.size, j.bytes)) = some (some (.agg #[.int .i64 0, .int .i64 0, .bool false, .int .i64 0]), 4, 32) := by kernel_rfl
set_option maxRecDepth 100000 in
theorem c_rNs (s : ByteArray) (i0 : Nat) (w : World) (hs : s.size ≤ 2000000) (hi0 : i0 ≤ 2000001) :
  Calls Tryz.prog 45 #[.string s, .int .i64 (i0 : Nat)] w fun e w' => ∃ v, e = .returned (.tuple #[v, .int .i64 ((nsR s 5 i0 []).2.1 : Nat), .bool (nsR s 5 i0 []).2.2]) ∧ Later w w' ∧ sliceRd tyI (fun b => w.heap.size ≤ b) w' v (nsR s 5 i0 []).1 := by
 refine enter (vs := [.string s, .int .i64 (i0 : Nat)]) Tryz.func45 rfl Tryz.ntmps45 rfl ?_
 refine w_seq ?_
 refine rg_text ?_
 refine x_val rfl rfl rfl (v_assign rfl) ?_
 refine x_val rfl rfl rfl (v_assign rfl) ?_
 refine x_val rfl rfl rfl (v_assign rfl) ?_
 refine x_end ?_
 refine t_norm ?_
 refine w_seq ?_
 refine rg_text ?_
 refine x_val rfl rfl rfl (v_assign rfl) ?_
 refine x_end ?_
 refine t_norm ?_
 refine w_block ?_
 refine w_loop (σ := List Int × Nat × RowS) (fun x => x.1.length ≤ 4 ∧ (∀ d ∈ x.1, in64 d) ∧ x.2.1 ≤ 2000001 ∧ nsR s (5 - x.1.length) x.2.1 x.1 = nsR s 5 i0 [] ∧ rowOK 1 x.2.2 x.1.length (x.1.map (Value.int .i64))) (fun x => [(0, Value.string s), (1, Value.int .i64 (x.2.1 : Nat)), (7, rowV x.2.2 x.1.length)]) (fun x => rowO 3 x.2.2) (fun x => [(w, fun _ => True)]) (fun x => 5 - x.1.length) (([], i0, none)) (⟨Nat.zero_le _, (fun d hd => by cases hd), hi0, rfl, rowOK_nil⟩) (l_start (by repeat (first | exact Sub.nil | refine Sub.cons rfl ?_)) (fun _ h => h)) ?_
 rintro ⟨out, i, R⟩ ⟨hol, hin, hi, hN, hR⟩
 refine w_state ([(0, Value.string s), (1, Value.int .i64 (i : Nat)), (7, rowV R out.length)]) (rowO 3 R) ([(w, fun _ => True)]) ?_
 dsimp only at hol hin hi hN hR
 have hvr := val_rng s i
 have hva := val_at s i
 obtain ⟨f, hf⟩ : ∃ f, 5 - out.length = f + 1 := ⟨4 - out.length, by omega⟩
 rw [hf, nsR] at hN
 obtain ⟨n, hn⟩ : ∃ n, (valR s i).1 = n := ⟨_, rfl⟩
 rw [hn] at hvr hN
 refine w_block ?_
 refine w_seq ?_
 refine rg_text ?_
 refine x_val rfl rfl rfl (v_move rfl) ?_
 refine x_val rfl rfl rfl (v_move rfl) ?_
 refine x_callv rfl rfl rfl Tryz.func78 (by kernel_rfl) rfl (fun w1 hw1 => c_value s i w1 hs (by omega)) ?_
 refine x_val rfl rfl rfl (v_move rfl) ?_
 refine x_val (v := Value.int .i64 n) rfl rfl rfl (by rw [← hn]; exact v_extract rfl rfl) ?_
 refine x_val rfl rfl rfl (v_extract rfl rfl) ?_
 refine x_bool rfl rfl rfl (v_extract rfl rfl) ?_
 intro b17 hb17
 refine x_val rfl rfl rfl (v_assign rfl) ?_
 refine x_val rfl rfl rfl (v_assign rfl) ?_
 refine x_val rfl rfl rfl (v_assign rfl) ?_
 refine x_end ?_
 refine t_norm ?_
 refine w_seq ?_
 refine w_seq ?_
 refine rg_text ?_
 refine x_val rfl rfl rfl (v_move rfl) ?_
 refine x_bool rfl rfl rfl (v_not rfl) ?_
 intro b19 hb19
 refine x_val rfl rfl rfl (v_move rfl) ?_
 refine x_if [] rfl rfl rfl rfl rfl (fun hg => by obtain ⟨hg0, _⟩ := hg; subst hg0; (try simp only [Qy1, Qy2, gvl_nil, gvl_t, gvl_f]); exact v_move rfl) ?_
 refine x_if [] rfl rfl rfl rfl rfl (fun hg => by obtain ⟨hg0, _⟩ := hg; subst hg0; (try simp only [Qy1, Qy2, gvl_nil, gvl_t, gvl_f]); exact v_len_slice Tryz.underlying22 rfl) ?_
 refine x_ifb [] rfl rfl rfl rfl rfl (fun hg => by obtain ⟨hg0, _⟩ := hg; subst hg0; (try simp only [Qy1, Qy2, gvl_nil, gvl_t, gvl_f]); exact v_eql rfl rfl) ?_
 intro b23 hb23
 refine x_bool rfl rfl rfl (v_or rfl rfl) ?_
 intro b24 hb24
 refine x_end ?_
 refine t_norm ?_
 refine w_cond rfl (fun hc24 => ?_) (fun hc24 => ?_)
 ·simp only [hb24, hb23, hb19, hb17, Qz1, Qz2, Qz3, Qz4, Qz5, Qz6, Qz7, Qz8, Qz9, Qz0] at hc24
  rw [if_pos (by rcases hc24 with h | h; (· simp [h]); simp [show out.length = 4 by omega])] at hN
  refine w_seq ?_
  refine rg_text ?_
  refine x_val rfl rfl rfl (v_move rfl) ?_
  refine x_val rfl rfl rfl (v_assign rfl) ?_
  refine x_val rfl rfl rfl (v_assign rfl) ?_
  refine x_val rfl rfl rfl (v_assign rfl) ?_
  refine x_end ?_
  refine t_norm ?_
  refine w_ret ?_
  refine t_ret ?_
  refine b_ret ?_
  refine t_ret ?_
  refine b_ret ?_
  refine ret3 rfl rfl rfl rfl (fun w' hm => ⟨_, by rw [← hN], hm.base (by simp), by rw [← hN]; exact ⟨none, 0, rfl, Nat.le_refl _, Nat.zero_le _, fun h => absurd h (Nat.lt_irrefl 0)⟩⟩)
 ·simp only [hb24, hb23, hb19, hb17, Qz1, Qz2, Qz3, Qz4, Qz5, Qz6, Qz7, Qz8, Qz9, Qz0] at hc24
  have hvo : (valR s i).2.2 = true := by simpa using hc24.1
  have hl3 : out.length < 4 := by have := hc24.2; omega
  obtain ⟨_, _, _, hvs, _⟩ := val_ok hvo
  rw [if_neg (by rw [hvo]; simp; omega)] at hN
  refine w_skip ?_
  refine t_norm ?_
  refine w_seq ?_
  refine rg_text ?_
  refine x_val rfl rfl rfl (v_move rfl) ?_
  refine x_val rfl rfl rfl (v_move rfl) ?_
  refine x_buildSliceL (cs := [Value.int .i64 n]) rfl rfl rfl Tryz.underlying22 sz3 zr3 rfl rfl rfl ?_
  intro p28
  refine x_append (e := 3) [(p28, Obj.cells [Value.int .i64 n].toArray 3)] (l2 := []) R (len := out.length) (xs := out.map (Value.int .i64)) rfl rfl rfl rfl (by simp) hR Tryz.underlying22 ap3 rfl rfl (m := 1) (news := [Value.int .i64 n]) (fun i hi => at_ownL (vs := [Value.int .i64 n]) (.head _) (by rw [Nat.zero_add]; exact List.getElem?_eq_getElem hi)) rfl (by simp only [maxLen]; omega) (by omega) ?_
  intro R' hR'
  have hR' : rowOK 1 R' (out ++ [n]).length ((out ++ [n]).map (Value.int .i64)) := by rw [List.length_append, List.map_append]; exact hR'
  refine x_val rfl rfl rfl (v_assign rfl) ?_
  refine x_end ?_
  refine t_norm ?_
  refine w_seq ?_
  refine w_seq ?_
  refine rg_text ?_
  refine x_val rfl rfl rfl (v_move rfl) ?_
  refine x_val rfl rfl rfl (v_move rfl) ?_
  refine x_val rfl rfl rfl (v_len_str Tryz.underlying9 rfl) ?_
  refine x_bool rfl rfl rfl (v_eql rfl rfl) ?_
  intro b33 hb33
  refine x_val rfl rfl rfl (v_move rfl) ?_
  refine x_if [] rfl rfl rfl rfl rfl (fun hg => by obtain ⟨hg0, _⟩ := hg; subst hg0; (try simp only [Qy1, Qy2, gvl_nil, gvl_t, gvl_f]); exact v_move rfl) ?_
  refine x_if [] rfl rfl rfl rfl rfl (fun hg => by obtain ⟨hg0, _⟩ := hg; subst hg0; (try simp only [Qy1, Qy2, gvl_nil, gvl_t, gvl_f]); exact v_move rfl) ?_
  refine x_if [] rfl rfl rfl rfl rfl (fun hg => by obtain ⟨hg0, _⟩ := hg; subst hg0; (try simp only [Qy1, Qy2, gvl_nil, gvl_t, gvl_f]); exact v_index (j := (valR s i).2.1) Tryz.underlying9 rfl rfl (by have h9 : ¬_ := of_decide_eq_false hb33.symm; omega)) ?_
  refine x_ifb [] rfl rfl rfl rfl rfl (fun hg => by obtain ⟨hg0, _⟩ := hg; subst hg0; (try simp only [Qy1, Qy2, gvl_nil, gvl_t, gvl_f]); exact v_neq rfl rfl) ?_
  intro b38 hb38
  refine x_bool rfl rfl rfl (v_or rfl rfl) ?_
  intro b39 hb39
  refine x_end ?_
  refine t_norm ?_
  refine w_cond rfl (fun hc39 => ?_) (fun hc39 => ?_)
  ·simp only [hb39, hb38, hb33, Qz1, Qz2, Qz3, Qz4, Qz5, Qz6, Qz7, Qz8, Qz9, Qz0] at hc39
   rw [if_pos (by rcases hc39 with h | h; (· exact .inl (by omega)); by_cases h9 : (valR s i).2.1 = s.size; (· exact .inl h9); exact .inr (fun h8 => by have h7 := (at_iff (by omega)).1 h8; have h7 : (byteAt s (valR s i).2.1).toNat = 47 := h7; omega))] at hN
   refine w_seq ?_
   refine rg_text ?_
   refine x_val rfl rfl rfl (v_move rfl) ?_
   refine x_val rfl rfl rfl (v_move rfl) ?_
   refine x_val rfl rfl rfl (v_assign rfl) ?_
   refine x_val rfl rfl rfl (v_assign rfl) ?_
   refine x_val rfl rfl rfl (v_assign rfl) ?_
   refine x_end ?_
   refine t_norm ?_
   refine w_ret ?_
   refine t_ret ?_
   refine b_ret ?_
   refine t_ret ?_
   refine b_ret ?_
   refine ret3 rfl rfl rfl rfl (fun w' hm => ⟨rowV R' (out ++ [n]).length, by rw [← hN, List.length_append]; rfl, hm.base (by simp), ?_⟩)
   rw [← hN]
   exact rowI_rd (e := 3) hR' (by simp) (fun d hd => by rcases List.mem_append.1 hd with h | h; (· exact hin d h); rw [List.mem_singleton.1 h]; unfold in64; omega) hm (fun p hp => by simp [hp]) (fun p hp => hm.newer (by simp) (by simp [hp]))
  ·simp only [hb39, hb38, hb33, Qz1, Qz2, Qz3, Qz4, Qz5, Qz6, Qz7, Qz8, Qz9, Qz0] at hc39
   have h8 : (valR s i).2.1 < s.size := by have := hc39.1; omega
   rw [if_neg (by rw [not_or, Decidable.not_not]; exact ⟨by omega, (at_iff h8).2 (by show _ = 47; have := hc39.2; omega)⟩)] at hN
   refine w_skip ?_
   refine t_norm ?_
   refine rg_text ?_
   refine x_val rfl rfl rfl (v_move rfl) ?_
   refine x_val rfl rfl rfl (v_addi (c := (((valR s i).2.1 + 1 : Nat) : Int)) rfl rfl (by omega) (by omega)) ?_
   refine x_val rfl rfl rfl (v_assign rfl) ?_
   refine x_end ?_
   refine b_norm ?_
   rw [List.append_nil]
   exact l_norm (x := (out, i, R)) (μ := fun q : List Int × Nat × RowS => 5 - q.1.length) (out ++ [n], (valR s i).2.1 + 1, R') ⟨by dsimp only; rw [List.length_append, List.length_singleton]; omega, fun d hd => by rcases List.mem_append.1 hd with h | h; (· exact hin d h); rw [List.mem_singleton.1 h]; unfold in64; omega, by dsimp only; omega, by dsimp only; rw [← hN, List.length_append, List.length_singleton, show 5 - (out.length + 1) = f by omega], hR'⟩ (by simp only [List.length_append, List.length_singleton]; omega) (by dsimp only; rw [List.length_append, List.length_singleton]; exact (by repeat (first | exact Sub.nil | refine Sub.cons rfl ?_))) (fun w1 h => h.less (List.sublist_cons_self _ _) (fun _ h => h))

end Go.Proofs.YtaniaihoodgmpaaGreatDoor

namespace Go.Proofs.YtaniaihoodgmpaaGreatDoor
open Go.RowKit Go.PK
set_option linter.unusedVariables false
set_option linter.unusedSimpArgs false
set_option maxHeartbeats 4000000 in
set_option maxRecDepth 100000 in
theorem c_rTake {w : World} {l2 : List (Nat × Obj)} {ro : List Snap} {R : RowS} {bs : Nat} {v1 v2 : Value} (p : Pat) (es : List Ent) (text : ByteArray) (day : Int) (hm : Mem w ((bs, Obj.cells ([Value.int .i64 p.first, Value.int .i64 p.days, v1, v2, rowV R es.length]).toArray 74 (0, 0)) :: (rowO 91 R ++ l2)) ro) (hp : ∀ w1 own1, Mem w1 own1 ro → patRd (fun _ => True) w1 p v1 v2) (hR : rowOK 4 R es.length (entsC es)) (hsrt : srt es) (hts : text.size ≤ 2000000) (hd : in64 day) (hlen : es.length ≤ 1000000) :
  Calls Tryz.prog 14 #[.pointer (some ⟨bs, 0, none⟩), .string text, .int .i64 day] w fun e w' => ∃ R', e = .returned (.int .i64 (takeQ p es text day).2) ∧ rowOK 4 R' (takeQ p es text day).1.length (entsC (takeQ p es text day).1) ∧ Mem w' ((bs, Obj.cells ([Value.int .i64 p.first, Value.int .i64 p.days, v1, v2, rowV R' (takeQ p es text day).1.length]).toArray 74 (0, 0)) :: (rowO 91 R' ++ l2)) ro := by
 refine enter_in hm (vs := [.pointer (some ⟨bs, 0, none⟩), .string text, .int .i64 day]) Tryz.func14 rfl Tryz.ntmps14 rfl ?_
 refine w_seq ?_
 refine rg_text ?_
 refine x_val rfl rfl rfl (v_assign rfl) ?_
 refine x_end ?_
 refine t_norm ?_
 refine w_seq ?_
 refine rg_text ?_
 refine x_val rfl rfl rfl (v_assign rfl) ?_
 refine x_end ?_
 refine t_norm ?_
 refine w_seq ?_
 refine rg_text ?_
 refine x_val rfl rfl rfl (v_move rfl) ?_
 refine x_val rfl rfl rfl (v_len_str Tryz.underlying9 rfl) ?_
 refine x_bool rfl rfl rfl (v_gtr rfl rfl) ?_
 intro b22 hb22
 refine x_val rfl rfl rfl (v_move rfl) ?_
 refine x_if [] rfl rfl rfl rfl rfl (fun hg => by obtain ⟨hg0, _⟩ := hg; subst hg0; (try simp only [Qy1, Qy2, gvl_nil, gvl_t, gvl_f]); exact v_move rfl) ?_
 refine x_if [] rfl rfl rfl rfl rfl (fun hg => by obtain ⟨hg0, _⟩ := hg; subst hg0; (try simp only [Qy1, Qy2, gvl_nil, gvl_t, gvl_f]); exact v_index (j := 0) Tryz.underlying9 rfl rfl (by have h9 := of_decide_eq_true hb22.symm; omega)) ?_
 refine x_ifb [] rfl rfl rfl rfl rfl (fun hg => by obtain ⟨hg0, _⟩ := hg; subst hg0; (try simp only [Qy1, Qy2, gvl_nil, gvl_t, gvl_f]); exact v_eql rfl rfl) ?_
 intro b26 hb26
 refine x_bool rfl rfl rfl (v_and rfl rfl) ?_
 intro b27 hb27
 obtain rfl : b27 = tkS text := by rw [tkS_eq, hb27, hb26, hb22]
 refine x_val rfl rfl rfl (v_assign rfl) ?_
 refine x_end ?_
 refine t_norm ?_
 refine w_seq_cut (σ := Unit) (fun q => True) (fun q => [(0, Value.pointer (some ⟨bs, 0, none⟩)), (1, Value.string text), (2, Value.int .i64 day), (6, Value.int .i64 0), (7, Value.int .i64 (rAt text : Nat)), (8, Value.bool (tkS text))]) (fun q => (bs, Obj.cells ([Value.int .i64 p.first, Value.int .i64 p.days, v1, v2, rowV R es.length]).toArray 74 (0, 0)) :: (rowO 91 R ++ l2)) (fun q => ro) ?_ ?_
 ·refine w_seq ?_
  refine rg_text ?_
  refine x_val rfl rfl rfl (v_move rfl) ?_
  refine x_end ?_
  refine t_norm ?_
  refine w_cond rfl (fun hc28 => ?_) (fun hc28 => ?_)
  ·have hs1 : tkS text = true := hc28
   refine rg_text ?_
   refine x_val rfl rfl rfl (v_assign rfl) ?_
   refine x_end ?_
   exact c_norm () trivial (by unfold rAt; rw [hs1]; exact (by repeat (first | exact Sub.nil | refine Sub.cons rfl ?_))) (fun _ h => h)
  ·have hs1 : tkS text = false := hc28
   refine w_skip ?_
   exact c_norm () trivial (by unfold rAt; rw [hs1]; exact (by repeat (first | exact Sub.nil | refine Sub.cons rfl ?_))) (fun _ h => h)
 ·rintro _ _
  refine w_seq ?_
  refine rg_text ?_
  refine x_val rfl rfl rfl (v_move rfl) ?_
  refine x_val rfl rfl rfl (v_move rfl) ?_
  have hat : rAt text ≤ 1 := by unfold rAt; split <;> omega
  refine x_call (R := fun v wa wb => ∃ v2, v = .tuple #[v2, .int .i64 ((rA text).2.1 : Nat), .bool (rA text).2.2] ∧ sliceRd tyI (fun b => wa.heap.size ≤ b) wb v2 (rA text).1) rfl rfl rfl Tryz.func45 (by kernel_rfl) rfl (fun w1 hw1 => (c_rNs text (rAt text) w1 hts (by omega)).mono fun e w2 ⟨v, h1, h2, h3⟩ => ⟨_, h1, h2, v, by rw [show rA text = nsR text 5 (rAt text) [] from rfl], by rw [show rA text = nsR text 5 (rAt text) [] from rfl]; exact h3⟩) ?_
  intro v32 wa32 wb32 hm32 hl32 hR32
  obtain ⟨v32_, rfl, hn32⟩ := hR32
  obtain ⟨A32, k32, rfl, _⟩ := id hn32
  refine x_val rfl rfl rfl (v_move rfl) ?_
  refine x_val rfl rfl rfl (v_extract rfl rfl) ?_
  refine x_val rfl rfl rfl (v_extract rfl rfl) ?_
  refine x_bool rfl rfl rfl (v_extract rfl rfl) ?_
  intro b35 hb35
  refine x_val rfl rfl rfl (v_assign rfl) ?_
  refine x_val rfl rfl rfl (v_assign rfl) ?_
  refine x_val rfl rfl rfl (v_assign rfl) ?_
  refine x_end ?_
  refine t_norm ?_
  refine w_seq ?_
  refine rg_text ?_
  refine x_val rfl rfl rfl (v_move rfl) ?_
  refine x_val rfl rfl rfl (v_assign rfl) ?_
  refine x_end ?_
  refine t_norm ?_
  refine w_seq ?_
  refine w_seq ?_
  refine rg_text ?_
  refine x_val rfl rfl rfl (v_move rfl) ?_
  refine x_val rfl rfl rfl (v_move rfl) ?_
  refine x_if [] rfl rfl rfl rfl rfl (fun hg => by obtain ⟨hg0, _⟩ := hg; subst hg0; (try simp only [Qy1, Qy2, gvl_nil, gvl_t, gvl_f]); exact v_move rfl) ?_
  refine x_if [] rfl rfl rfl rfl rfl (fun hg => by obtain ⟨hg0, _⟩ := hg; subst hg0; (try simp only [Qy1, Qy2, gvl_nil, gvl_t, gvl_f]); exact v_move rfl) ?_
  refine x_if [] rfl rfl rfl rfl rfl (fun hg => by obtain ⟨hg0, _⟩ := hg; subst hg0; (try simp only [Qy1, Qy2, gvl_nil, gvl_t, gvl_f]); exact v_len_str Tryz.underlying9 rfl) ?_
  refine x_ifb [] rfl rfl rfl rfl rfl (fun hg => by obtain ⟨hg0, _⟩ := hg; subst hg0; (try simp only [Qy1, Qy2, gvl_nil, gvl_t, gvl_f]); exact v_lss rfl rfl) ?_
  intro b42 hb42
  refine x_bool rfl rfl rfl (v_and rfl rfl) ?_
  intro b43 hb43
  refine x_val rfl rfl rfl (v_move rfl) ?_
  refine x_if [] rfl rfl rfl rfl rfl (fun hg => by obtain ⟨hg0, _⟩ := hg; subst hg0; (try simp only [Qy1, Qy2, gvl_nil, gvl_t, gvl_f]); exact v_move rfl) ?_
  refine x_if [] rfl rfl rfl rfl rfl (fun hg => by obtain ⟨hg0, _⟩ := hg; subst hg0; (try simp only [Qy1, Qy2, gvl_nil, gvl_t, gvl_f]); exact v_move rfl) ?_
  refine x_if [] rfl rfl rfl rfl rfl (fun hg => by obtain ⟨hg0, _⟩ := hg; subst hg0; (try simp only [Qy1, Qy2, gvl_nil, gvl_t, gvl_f]); exact v_index (j := (rA text).2.1) Tryz.underlying9 rfl rfl (by have h9 : _ = true ∧ _ := Bool.and_eq_true _ _ ▸ hb43.symm; have h8 := of_decide_eq_true (hb42.symm.trans h9.2); omega)) ?_
  refine x_ifb [] rfl rfl rfl rfl rfl (fun hg => by obtain ⟨hg0, _⟩ := hg; subst hg0; (try simp only [Qy1, Qy2, gvl_nil, gvl_t, gvl_f]); exact v_eql rfl rfl) ?_
  intro b48 hb48
  refine x_bool rfl rfl rfl (v_and rfl rfl) ?_
  intro b49 hb49
  refine x_end ?_
  refine t_norm ?_
  refine w_cond rfl (fun hc49 => ?_) (fun hc49 => ?_)
  ·have hd9 : rDash text = true := by rw [rDash_eq, ← hc49, hb49, hb48, hb43, hb42, hb35]
   have hB : rB text = nsR text 5 ((rA text).2.1 + 1) [] := by unfold rB; rw [hd9]; rfl
   have hlt9 : (rA text).2.1 < text.size := by unfold rDash at hd9; rw [Bool.and_eq_true, Bool.and_eq_true, decide_eq_true_eq] at hd9; exact hd9.1.2
   refine rg_text ?_
   refine x_val rfl rfl rfl (v_move rfl) ?_
   refine x_val rfl rfl rfl (v_move rfl) ?_
   refine x_val rfl rfl rfl (v_addi (c := (((rA text).2.1 + 1 : Nat) : Int)) rfl rfl (by omega) (by omega)) ?_
   refine x_call (R := fun v wa wb => ∃ v2, v = .tuple #[v2, .int .i64 ((rB text).2.1 : Nat), .bool (rB text).2.2] ∧ sliceRd tyI (fun b => wa.heap.size ≤ b) wb v2 (rB text).1) rfl rfl rfl Tryz.func45 (by kernel_rfl) rfl (fun w1 hw1 => (c_rNs text ((rA text).2.1 + 1) w1 hts (by omega)).mono fun e w2 ⟨v, h1, h2, h3⟩ => ⟨_, h1, h2, v, by rw [hB], by rw [hB]; exact h3⟩) ?_
   intro v54 wa54 wb54 hm54 hl54 hR54
   obtain ⟨v54_, rfl, hn54⟩ := hR54
   obtain ⟨A54, k54, rfl, _⟩ := id hn54
   refine x_val rfl rfl rfl (v_move rfl) ?_
   refine x_val rfl rfl rfl (v_extract rfl rfl) ?_
   refine x_val rfl rfl rfl (v_extract rfl rfl) ?_
   refine x_bool rfl rfl rfl (v_extract rfl rfl) ?_
   intro b57 hb57
   refine x_val rfl rfl rfl (v_assign rfl) ?_
   refine x_val rfl rfl rfl (v_assign rfl) ?_
   refine x_val rfl rfl rfl (v_assign rfl) ?_
   refine x_end ?_
   refine t_norm ?_
   refine w_seq ?_
   refine w_seq ?_
   refine rg_text ?_
   refine x_val rfl rfl rfl (v_move rfl) ?_
   refine x_bool rfl rfl rfl (v_not rfl) ?_
   intro b59 hb59
   refine x_val rfl rfl rfl (v_move rfl) ?_
   refine x_if [] rfl rfl rfl rfl rfl (fun hg => by obtain ⟨hg0, _⟩ := hg; subst hg0; (try simp only [Qy1, Qy2, gvl_nil, gvl_t, gvl_f]); exact v_move rfl) ?_
   refine x_if [] rfl rfl rfl rfl rfl (fun hg => by obtain ⟨hg0, _⟩ := hg; subst hg0; (try simp only [Qy1, Qy2, gvl_nil, gvl_t, gvl_f]); exact v_move rfl) ?_
   refine x_if [] rfl rfl rfl rfl rfl (fun hg => by obtain ⟨hg0, _⟩ := hg; subst hg0; (try simp only [Qy1, Qy2, gvl_nil, gvl_t, gvl_f]); exact v_len_str Tryz.underlying9 rfl) ?_
   refine x_ifb [] rfl rfl rfl rfl rfl (fun hg => by obtain ⟨hg0, _⟩ := hg; subst hg0; (try simp only [Qy1, Qy2, gvl_nil, gvl_t, gvl_f]); exact v_neq rfl rfl) ?_
   intro b64 hb64
   refine x_bool rfl rfl rfl (v_or rfl rfl) ?_
   intro b65 hb65
   refine x_end ?_
   refine t_norm ?_
   refine w_cond rfl (fun hc65 => ?_) (fun hc65 => ?_)
   ·have hro : rOK text = false := by rw [rOK_eq, ← hb57, ← hb59, ← hb64, ← hb65, hc65]; rfl
    have hT : takeQ p es text day = (es, 11) := rT_form hro
    refine w_seq ?_
    refine rg_text ?_
    refine x_val rfl rfl rfl (v_assign rfl) ?_
    refine x_end ?_
    refine t_norm ?_
    refine w_ret ?_
    refine t_ret ?_
    refine ret1 rfl rfl (fun w' hm => ⟨R, by rw [hT], by rw [hT]; exact hR, ?_⟩)
    rw [hT]
    exact hm.less (by repeat (first | exact List.Sublist.refl _ | apply List.Sublist.cons)) (fun s hs => by repeat (first | exact hs | apply List.mem_cons_of_mem))
   ·have hro : rOK text = true := by rw [rOK_eq, ← hb57, ← hb59, ← hb64, ← hb65, hc65]; rfl
    refine w_skip ?_
    refine t_norm ?_
    refine w_seq ?_
    refine rg_text ?_
    refine x_val rfl rfl rfl (v_move rfl) ?_
    refine x_callb rfl rfl rfl Tryz.func46 (by kernel_rfl) rfl (fun w1 hw1 => c_risDay day w1) ?_
    intro b67 hb67
    refine x_val rfl rfl rfl (v_assign rfl) ?_
    refine x_end ?_
    refine t_norm ?_
    refine w_seq ?_
    refine w_seq ?_
    refine rg_text ?_
    refine x_val rfl rfl rfl (v_move rfl) ?_
    refine x_bool rfl rfl rfl (v_not rfl) ?_
    intro b69 hb69
    refine x_end ?_
    refine t_norm ?_
    refine w_cond rfl (fun hc69 => ?_) (fun hc69 => ?_)
    ·have hT : takeQ p es text day = (es, 1) := rT_arg hro (fun h => by rw [hb69, hb67, decide_eq_true h] at hc69; cases hc69)
     refine w_seq ?_
     refine rg_text ?_
     refine x_val rfl rfl rfl (v_assign rfl) ?_
     refine x_end ?_
     refine t_norm ?_
     refine w_ret ?_
     refine t_ret ?_
     refine ret1 rfl rfl (fun w' hm => ⟨R, by rw [hT], by rw [hT]; exact hR, ?_⟩)
     rw [hT]
     exact hm.less (by repeat (first | exact List.Sublist.refl _ | apply List.Sublist.cons)) (fun s hs => by repeat (first | exact hs | apply List.mem_cons_of_mem))
    ·have hod : okDay day := by rw [hb69, hb67] at hc69; simpa using hc69
     refine w_skip ?_
     refine t_norm ?_
     refine w_seq ?_
     refine rg_text ?_
     refine x_val rfl rfl rfl (v_move rfl) ?_
     refine x_val rfl rfl rfl (v_nilCheck rfl) ?_
     refine x_val rfl rfl rfl (v_fieldAddr (off' := 0) Tryz.underlying74 rfl sz26 (by decide) rfl rfl) ?_
     refine x_val rfl rfl rfl (v_loadN (vs := ([Value.int .i64 p.first, Value.int .i64 p.days, v1, v2, rowV R es.length]).take 4) Tryz.underlying26 rfl sz26 rfl (fun j hj => at_ownL (vs := [Value.int .i64 p.first, Value.int .i64 p.days, v1, v2, rowV R es.length]) (.head _) (by match j, hj with | 0, _ | 1, _ | 2, _ | 3, _ => rfl))) ?_
     refine x_val rfl rfl rfl (v_move rfl) ?_
     refine x_callv (v := Value.tuple #[.int .i64 ((numP p (rA text).1).getD 0), .bool (numP p (rA text).1).isSome]) rfl rfl rfl Tryz.func47 (by kernel_rfl) rfl (fun w1 hw1 => c_rNumber p (rA text).1 w1 (hp w1 _ (hw1.less (List.Sublist.refl _) (fun s hs => by repeat (first | exact hs | apply List.mem_cons_of_mem)))) (keep_new hn32 hw1 (by repeat (first | exact List.Mem.head _ | apply List.Mem.tail)) hm32)) ?_
     refine x_val rfl rfl rfl (v_move rfl) ?_
     refine x_val rfl rfl rfl (v_extract rfl rfl) ?_
     refine x_bool rfl rfl rfl (v_extract rfl rfl) ?_
     intro b78 hb78
     refine x_val rfl rfl rfl (v_assign rfl) ?_
     refine x_val rfl rfl rfl (v_assign rfl) ?_
     refine x_end ?_
     refine t_norm ?_
     refine w_seq ?_
     refine rg_text ?_
     refine x_val rfl rfl rfl (v_move rfl) ?_
     refine x_val rfl rfl rfl (v_nilCheck rfl) ?_
     refine x_val rfl rfl rfl (v_fieldAddr (off' := 0) Tryz.underlying74 rfl sz26 (by decide) rfl rfl) ?_
     refine x_val rfl rfl rfl (v_loadN (vs := ([Value.int .i64 p.first, Value.int .i64 p.days, v1, v2, rowV R es.length]).take 4) Tryz.underlying26 rfl sz26 rfl (fun j hj => at_ownL (vs := [Value.int .i64 p.first, Value.int .i64 p.days, v1, v2, rowV R es.length]) (.head _) (by match j, hj with | 0, _ | 1, _ | 2, _ | 3, _ => rfl))) ?_
     refine x_val rfl rfl rfl (v_move rfl) ?_
     refine x_callv (v := Value.tuple #[.int .i64 ((numP p (rB text).1).getD 0), .bool (numP p (rB text).1).isSome]) rfl rfl rfl Tryz.func47 (by kernel_rfl) rfl (fun w1 hw1 => c_rNumber p (rB text).1 w1 (hp w1 _ (hw1.less (List.Sublist.refl _) (fun s hs => by repeat (first | exact hs | apply List.mem_cons_of_mem)))) (keep_new hn54 hw1 (by repeat (first | exact List.Mem.head _ | apply List.Mem.tail)) hm54)) ?_
     refine x_val rfl rfl rfl (v_move rfl) ?_
     refine x_val rfl rfl rfl (v_extract rfl rfl) ?_
     refine x_bool rfl rfl rfl (v_extract rfl rfl) ?_
     intro b87 hb87
     refine x_val rfl rfl rfl (v_assign rfl) ?_
     refine x_val rfl rfl rfl (v_assign rfl) ?_
     refine x_end ?_
     refine t_norm ?_
     refine w_seq_cut (σ := Ent) (fun x => (takeQ p es text day = if meets es x = true then (es, 22) else (insE es x, 0)) ∧ entOK x ∧ x.day = day ∧ x.sk = tkS text) (fun x => [(0, Value.pointer (some ⟨bs, 0, none⟩)), (2, Value.int .i64 x.day), (8, Value.bool x.sk), (13, Value.int .i64 x.fr), (15, Value.int .i64 x.to)]) (fun x => (bs, Obj.cells ([Value.int .i64 p.first, Value.int .i64 p.days, v1, v2, rowV R es.length]).toArray 74 (0, 0)) :: (rowO 91 R ++ l2)) (fun x => ro) ?_ ?_
     ·refine w_seq ?_
      refine rg_text ?_
      refine x_val rfl rfl rfl (v_move rfl) ?_
      refine x_bool rfl rfl rfl (v_not rfl) ?_
      intro b89 hb89
      refine x_val rfl rfl rfl (v_move rfl) ?_
      refine x_if [] rfl rfl rfl rfl rfl (fun hg => by obtain ⟨hg0, _⟩ := hg; subst hg0; (try simp only [Qy1, Qy2, gvl_nil, gvl_t, gvl_f]); exact v_move rfl) ?_
      refine x_ifb [] rfl rfl rfl rfl rfl (fun hg => by obtain ⟨hg0, _⟩ := hg; subst hg0; (try simp only [Qy1, Qy2, gvl_nil, gvl_t, gvl_f]); exact v_not rfl) ?_
      intro b92 hb92
      refine x_bool rfl rfl rfl (v_or rfl rfl) ?_
      intro b93 hb93
      refine x_val rfl rfl rfl (v_move rfl) ?_
      refine x_if [] rfl rfl rfl rfl rfl (fun hg => by obtain ⟨hg0, _⟩ := hg; subst hg0; (try simp only [Qy1, Qy2, gvl_nil, gvl_t, gvl_f]); exact v_move rfl) ?_
      refine x_if [] rfl rfl rfl rfl rfl (fun hg => by obtain ⟨hg0, _⟩ := hg; subst hg0; (try simp only [Qy1, Qy2, gvl_nil, gvl_t, gvl_f]); exact v_move rfl) ?_
      refine x_ifb [] rfl rfl rfl rfl rfl (fun hg => by obtain ⟨hg0, _⟩ := hg; subst hg0; (try simp only [Qy1, Qy2, gvl_nil, gvl_t, gvl_f]); exact v_lss rfl rfl) ?_
      intro b97 hb97
      refine x_bool rfl rfl rfl (v_or rfl rfl) ?_
      intro b98 hb98
      refine x_val rfl rfl rfl (v_move rfl) ?_
      refine x_if [] rfl rfl rfl rfl rfl (fun hg => by obtain ⟨hg0, _⟩ := hg; subst hg0; (try simp only [Qy1, Qy2, gvl_nil, gvl_t, gvl_f]); exact v_move rfl) ?_
      refine x_if [] rfl rfl rfl rfl rfl (fun hg => by obtain ⟨hg0, _⟩ := hg; subst hg0; (try simp only [Qy1, Qy2, gvl_nil, gvl_t, gvl_f]); exact v_move rfl) ?_
      have r1 := numP_rng p (rA text).1
      have r2 := numP_rng p (rB text).1
      refine x_if [] rfl rfl rfl rfl rfl (fun hg => by obtain ⟨hg0, _⟩ := hg; subst hg0; (try simp only [Qy1, Qy2, gvl_nil, gvl_t, gvl_f]); exact v_subi rfl rfl rfl (by first | omega | (dsimp only; omega))) ?_
      refine x_if [] rfl rfl rfl rfl rfl (fun hg => by obtain ⟨hg0, _⟩ := hg; subst hg0; (try simp only [Qy1, Qy2, gvl_nil, gvl_t, gvl_f]); exact v_addi rfl rfl rfl (by first | omega | (dsimp only; omega))) ?_
      refine x_ifb [] rfl rfl rfl rfl rfl (fun hg => by obtain ⟨hg0, _⟩ := hg; subst hg0; (try simp only [Qy1, Qy2, gvl_nil, gvl_t, gvl_f]); exact v_gtr rfl rfl) ?_
      intro b104 hb104
      refine x_bool rfl rfl rfl (v_or rfl rfl) ?_
      intro b105 hb105
      refine x_end ?_
      refine t_norm ?_
      refine w_cond rfl (fun hc105 => ?_) (fun hc105 => ?_)
      ·have hT : takeQ p es text day = (es, 32) := rT_none hro hod (by
        have hc := hc105
        have r1 := numP_rng p (rA text).1
        have r2 := numP_rng p (rB text).1
        simp only [hb105, hb104, hb98, hb97, hb93, hb92, hb89, hb87, hb78, Bool.or_eq_true, Bool.not_eq_true', decide_eq_true_eq] at hc
        rcases hc with ((hc | hc) | hc) | hc
        ·exact .inl hc
        ·exact .inr (.inl hc)
        ·exact .inr (.inr (.inl hc))
        ·exact .inr (.inr (.inr (by omega))))
       refine w_seq ?_
       refine rg_text ?_
       refine x_val rfl rfl rfl (v_assign rfl) ?_
       refine x_end ?_
       refine t_norm ?_
       refine w_ret ?_
       refine t_ret ?_
       refine ret1 rfl rfl (fun w' hm => ⟨R, by rw [hT], by rw [hT]; exact hR, ?_⟩)
       rw [hT]
       exact hm.less (by repeat (first | exact List.Sublist.refl _ | apply List.Sublist.cons)) (fun s hs => by repeat (first | exact hs | apply List.mem_cons_of_mem))
      ·have hc := hc105
       simp only [hb105, hb104, hb98, hb97, hb93, hb92, hb89, hb87, hb78, Bool.or_eq_false_iff, Bool.not_eq_false', decide_eq_false_iff_not] at hc
       obtain ⟨⟨⟨h1, h2⟩, h3⟩, h4⟩ := hc
       have h9 := rT_some (p := p) (es := es) (text := text) hro hod h1 h2 h3 (by omega)
       refine w_skip ?_
       exact c_norm (⟨((numP p (rA text).1).getD 0), ((numP p (rB text).1).getD 0), tkS text, day⟩ : Ent) ⟨h9.2, h9.1, rfl, rfl⟩ (by repeat (first | exact Sub.nil | refine Sub.cons rfl ?_)) (fun w1 h => h.less (by repeat (first | exact List.Sublist.refl _ | apply List.Sublist.cons)) (fun s hs => by repeat (first | exact hs | apply List.mem_cons_of_mem)))
     ·rintro x ⟨hTx, hx, hxd, hxs⟩
      refine w_seq ?_
      refine rg_text ?_
      refine x_val rfl rfl rfl (v_assign rfl) ?_
      refine x_end ?_
      refine t_norm ?_
      refine w_seq ?_
      refine w_seq ?_
      refine rg_text ?_
      refine x_val rfl rfl rfl (v_assign rfl) ?_
      refine x_end ?_
      refine t_norm ?_
      refine w_block ?_
      obtain ⟨e1, e2, e3, e4, e5⟩ := id hx
      have e6 := e5
      unfold okDay at e6
      refine w_loop (σ := Nat) (fun k => k ≤ es.length ∧ ∀ j (h : j < es.length), j < k → ¬(x.fr ≤ es[j].to ∧ es[j].fr ≤ x.to)) (fun k => [(0, .pointer (some ⟨bs, 0, none⟩)), (2, Value.int .i64 x.day), (8, Value.bool x.sk), (13, Value.int .i64 x.fr), (15, Value.int .i64 x.to), (17, Value.int .i64 (plc es x.fr k : Nat)), (18, Value.int .i64 (k : Nat))]) (fun k => (bs, Obj.cells ([Value.int .i64 p.first, Value.int .i64 p.days, v1, v2, rowV R es.length]).toArray 74 (0, 0)) :: (rowO 91 R ++ l2)) (fun k => ro) (fun k => es.length - k) (0) (⟨Nat.zero_le _, by intros; omega⟩) (l_start (by repeat (first | exact Sub.nil | refine Sub.cons rfl ?_)) (fun _ h => h)) ?_
      rintro k ⟨hk, hno⟩
      refine w_state ([(0, .pointer (some ⟨bs, 0, none⟩)), (2, Value.int .i64 x.day), (8, Value.bool x.sk), (13, Value.int .i64 x.fr), (15, Value.int .i64 x.to), (17, Value.int .i64 (plc es x.fr k : Nat)), (18, Value.int .i64 (k : Nat))]) ((bs, Obj.cells ([Value.int .i64 p.first, Value.int .i64 p.days, v1, v2, rowV R es.length]).toArray 74 (0, 0)) :: (rowO 91 R ++ l2)) (ro) ?_
      refine w_seq ?_
      refine w_seq ?_
      refine rg_text ?_
      refine x_val rfl rfl rfl (v_move rfl) ?_
      refine x_val rfl rfl rfl (v_move rfl) ?_
      refine x_val rfl rfl rfl (v_nilCheck rfl) ?_
      refine x_val rfl rfl rfl (v_fieldAddr (off' := 4) Tryz.underlying74 rfl sz72 (by decide) rfl rfl) ?_
      refine x_val rfl rfl rfl (v_load Tryz.underlying72 rfl rfl (at_ownL (vs := [Value.int .i64 p.first, Value.int .i64 p.days, v1, v2, rowV R es.length]) (by repeat (first | exact List.Mem.head _ | apply List.Mem.tail)) rfl)) ?_
      refine x_val rfl rfl rfl (v_len_slice Tryz.underlying72 rfl) ?_
      refine x_bool rfl rfl rfl (v_lss rfl rfl) ?_
      intro b112 hb112
      refine x_end ?_
      refine t_norm ?_
      refine w_cond rfl (fun hc112 => ?_) (fun hc112 => ?_)
      ·simp only [hb112, Qz1, Qz2, Qz3, Qz4, Qz5, Qz6, Qz7, Qz8, Qz9, Qz0] at hc112
       have hkl : k < es.length := by omega
       obtain ⟨bg, csg, cpg, hge, _⟩ := hR.cell (j := 0) (by rw [entsC_len]; omega)
       refine w_skip ?_
       refine t_norm ?_
       refine w_seq ?_
       refine w_block ?_
       refine w_seq ?_
       refine rg_text ?_
       refine x_val rfl rfl rfl (v_move rfl) ?_
       refine x_val rfl rfl rfl (v_nilCheck rfl) ?_
       refine x_val rfl rfl rfl (v_fieldAddr (off' := 4) Tryz.underlying74 rfl sz72 (by decide) rfl rfl) ?_
       refine x_val rfl rfl rfl (v_load Tryz.underlying72 rfl rfl (at_ownL (vs := [Value.int .i64 p.first, Value.int .i64 p.days, v1, v2, rowV R es.length]) (by repeat (first | exact List.Mem.head _ | apply List.Mem.tail)) rfl)) ?_
       refine x_val rfl rfl rfl (v_move rfl) ?_
       refine x_val rfl rfl rfl (v_indexAddr Tryz.underlying72 sz91 (congrArg (fun q => some (rowV q es.length)) hge) rfl (by first | omega | (dsimp only; omega)) rfl) ?_
       refine x_val rfl rfl rfl (v_fieldAddr Tryz.underlying91 rfl sz3 (by decide) rfl rfl) ?_
       refine x_val rfl rfl rfl (v_load Tryz.underlying3 rfl rfl (at_ownL (vs := csg) (show (bg, Obj.cells csg.toArray 91 (0, 0)) ∈ _ by rw [hge]; simp [rowO]) (rowE_at (j := 1) (hge ▸ hR) rfl hkl (show 1 < 4 by decide)))) ?_
       refine x_val rfl rfl rfl (v_move rfl) ?_
       refine x_bool rfl rfl rfl (v_lss rfl rfl) ?_
       intro b124 hb124
       refine x_end ?_
       refine t_norm ?_
       refine w_cond rfl (fun hc124 => ?_) (fun hc124 => ?_)
       ·simp only [hb124, Qz1, Qz2, Qz3, Qz4, Qz5, Qz6, Qz7, Qz8, Qz9, Qz0] at hc124
        refine rg_text ?_
        refine x_val rfl rfl rfl (v_move rfl) ?_
        refine x_val rfl rfl rfl (v_addi rfl rfl rfl (by first | omega | (dsimp only; omega))) ?_
        refine x_val rfl rfl rfl (v_assign rfl) ?_
        refine x_end ?_
        refine b_norm ?_
        refine t_norm ?_
        refine rg_text ?_
        refine x_val rfl rfl rfl (v_move rfl) ?_
        refine x_val rfl rfl rfl (v_addi rfl rfl rfl (by first | omega | (dsimp only; omega))) ?_
        refine x_val rfl rfl rfl (v_assign rfl) ?_
        refine x_end ?_
        exact l_norm (x := k) (μ := fun q : Nat => es.length - q) (k + 1) ⟨hkl, fun j hj hjk => by rcases Nat.lt_succ_iff_lt_or_eq.1 hjk with h3 | rfl; (· exact hno j hj h3); omega⟩ (by omega) (by (try dsimp only); rw [plc_yes hkl (by omega)]; exact (by repeat (first | exact Sub.nil | refine Sub.cons rfl ?_))) (fun _ h => h)
       ·simp only [hb124, Qz1, Qz2, Qz3, Qz4, Qz5, Qz6, Qz7, Qz8, Qz9, Qz0] at hc124
        refine w_seq ?_
        refine rg_text ?_
        refine x_val rfl rfl rfl (v_move rfl) ?_
        refine x_val rfl rfl rfl (v_nilCheck rfl) ?_
        refine x_val rfl rfl rfl (v_fieldAddr (off' := 4) Tryz.underlying74 rfl sz72 (by decide) rfl rfl) ?_
        refine x_val rfl rfl rfl (v_load Tryz.underlying72 rfl rfl (at_ownL (vs := [Value.int .i64 p.first, Value.int .i64 p.days, v1, v2, rowV R es.length]) (by repeat (first | exact List.Mem.head _ | apply List.Mem.tail)) rfl)) ?_
        refine x_val rfl rfl rfl (v_move rfl) ?_
        refine x_val rfl rfl rfl (v_indexAddr Tryz.underlying72 sz91 (congrArg (fun q => some (rowV q es.length)) hge) rfl (by first | omega | (dsimp only; omega)) rfl) ?_
        refine x_val rfl rfl rfl (v_fieldAddr Tryz.underlying91 rfl sz3 (by decide) rfl rfl) ?_
        refine x_val rfl rfl rfl (v_load Tryz.underlying3 rfl rfl (at_ownL (vs := csg) (show (bg, Obj.cells csg.toArray 91 (0, 0)) ∈ _ by rw [hge]; simp [rowO]) (rowE_at (j := 0) (hge ▸ hR) rfl hkl (show 0 < 4 by decide)))) ?_
        refine x_val rfl rfl rfl (v_move rfl) ?_
        refine x_bool rfl rfl rfl (v_leq rfl rfl) ?_
        intro b136 hb136
        refine x_end ?_
        refine t_norm ?_
        refine w_cond rfl (fun hc136 => ?_) (fun hc136 => ?_)
        ·simp only [hb136, Qz1, Qz2, Qz3, Qz4, Qz5, Qz6, Qz7, Qz8, Qz9, Qz0] at hc136
         have hT : takeQ p es text day = (es, 22) := by rw [hTx, if_pos (meets_yes ⟨es[k], List.getElem_mem hkl, by omega, by omega⟩)]
         refine w_seq ?_
         refine rg_text ?_
         refine x_val rfl rfl rfl (v_assign rfl) ?_
         refine x_end ?_
         refine t_norm ?_
         refine w_ret ?_
         refine b_ret ?_
         refine t_ret ?_
         refine t_ret ?_
         refine b_ret ?_
         refine t_ret ?_
         refine ret1 rfl rfl (fun w' hm => ⟨R, by rw [hT], by rw [hT]; exact hR, ?_⟩)
         rw [hT]
         exact hm.less (by repeat (first | exact List.Sublist.refl _ | apply List.Sublist.cons)) (fun s hs => by repeat (first | exact hs | apply List.mem_cons_of_mem))
        ·simp only [hb136, Qz1, Qz2, Qz3, Qz4, Qz5, Qz6, Qz7, Qz8, Qz9, Qz0] at hc136
         refine w_skip ?_
         refine b_norm ?_
         refine t_norm ?_
         refine rg_text ?_
         refine x_val rfl rfl rfl (v_move rfl) ?_
         refine x_val rfl rfl rfl (v_addi rfl rfl rfl (by first | omega | (dsimp only; omega))) ?_
         refine x_val rfl rfl rfl (v_assign rfl) ?_
         refine x_end ?_
         exact l_norm (x := k) (μ := fun q : Nat => es.length - q) (k + 1) ⟨hkl, fun j hj hjk => by rcases Nat.lt_succ_iff_lt_or_eq.1 hjk with h3 | rfl; (· exact hno j hj h3); omega⟩ (by omega) (by (try dsimp only); rw [plc_no hkl (by omega)]; exact (by repeat (first | exact Sub.nil | refine Sub.cons rfl ?_))) (fun _ h => h)
      ·simp only [hb112, Qz1, Qz2, Qz3, Qz4, Qz5, Qz6, Qz7, Qz8, Qz9, Qz0] at hc112
       obtain rfl : k = es.length := by omega
       have hmt : meets es x = false := meets_iff.2 (fun j hj => hno j hj hj)
       have hT : takeQ p es text day = (insE es x, 0) := by rw [hTx, hmt]; rfl
       obtain ⟨m, hm9⟩ : ∃ m, plc es x.fr es.length = m := ⟨_, rfl⟩
       have hml : m ≤ es.length := hm9 ▸ plc_le es x.fr _
       have hins := plc_ins hsrt hx hmt
       rw [hm9] at hins
       have hcap := hR.cap
       refine w_exit ?_
       refine t_exit ?_
       refine t_exit ?_
       refine b_hit ?_
       refine t_norm ?_
       refine w_seq ?_
       refine rg_text ?_
       refine x_val rfl rfl rfl (v_assign rfl) ?_
       refine x_end ?_
       refine t_norm ?_
       refine w_seq ?_
       refine rg_text ?_
       refine x_val rfl rfl rfl (v_move rfl) ?_
       refine x_val rfl rfl rfl (v_move rfl) ?_
       refine x_val rfl rfl rfl (v_nilCheck rfl) ?_
       refine x_val rfl rfl rfl (v_fieldAddr (off' := 4) Tryz.underlying74 rfl sz72 (by decide) rfl rfl) ?_
       refine x_val rfl rfl rfl (v_load Tryz.underlying72 rfl rfl (at_ownL (vs := [Value.int .i64 p.first, Value.int .i64 p.days, v1, v2, rowV R es.length]) (by repeat (first | exact List.Mem.head _ | apply List.Mem.tail)) rfl)) ?_
       refine x_val (v := Value.int .i64 (m : Nat)) rfl rfl rfl (by rw [← hm9]; exact v_move rfl) ?_
       refine x_val rfl rfl rfl (v_scut_to (j := m) Tryz.underlying72 sz91 rfl rfl (by omega)) ?_
       refine x_append_any (e := 91) (ao := rowA R) (c2 := rowC R) (m := m) (news := entsC (es.take m)) ((bs, Obj.cells ([Value.int .i64 p.first, Value.int .i64 p.days, v1, v2, rowV R es.length]).toArray 74 (0, 0)) :: (rowO 91 R ++ l2)) (l2 := []) none (len := 0) (xs := []) rfl rfl rfl rfl (by simp [rowO]) rowOK_nil Tryz.underlying72 ap91 rfl (by rw [entsC_len, List.length_take, Nat.min_eq_left hml]) (fun h => by have := row_none hR h; omega) (fun w1 hw1 a ha j u hu => row_head (e := 91) hR hw1 (fun q hq => List.mem_cons_of_mem _ (List.mem_append_left _ hq)) ha hu) (entsC_one _) (by simp only [maxLen]; omega) (by omega) ?_
       intro R1 hR1
       rw [List.nil_append] at hR1
       rw [show 0 + m = m from Nat.zero_add m] at hR1 ⊢
       refine x_val rfl rfl rfl (v_assign rfl) ?_
       refine x_end ?_
       refine t_norm ?_
       refine w_seq ?_
       refine rg_text ?_
       refine x_val rfl rfl rfl (v_move rfl) ?_
       refine x_val rfl rfl rfl (v_move rfl) ?_
       refine x_val rfl rfl rfl (v_move rfl) ?_
       refine x_val rfl rfl rfl (v_move rfl) ?_
       refine x_val rfl rfl rfl (v_move rfl) ?_
       refine x_val (v := Value.agg (entC x).toArray) rfl rfl rfl (v_buildL (places := [(0, 1), (1, 1), (2, 1), (3, 1)]) Tryz.underlying91 zr91 (by kernel_rfl) rfl rfl) ?_
       refine x_buildSliceL (cs := entC x) rfl rfl rfl Tryz.underlying72 sz91 zr91 rfl rfl rfl ?_
       intro p151
       refine x_append (e := 91) ((p151, Obj.cells (entC x).toArray 91 (0, 0)) :: ((bs, Obj.cells ([Value.int .i64 p.first, Value.int .i64 p.days, v1, v2, rowV R es.length]).toArray 74 (0, 0)) :: (rowO 91 R ++ l2))) (l2 := []) R1 (len := m) (xs := entsC (es.take m)) rfl rfl rfl rfl (by simp [List.append_assoc]) hR1 Tryz.underlying72 ap91 rfl rfl (m := 1) (news := entC x) (fun j hj => at_ownL (vs := entC x) (.head _) (by rw [Nat.zero_add]; exact List.getElem?_eq_getElem hj)) rfl (by simp only [maxLen]; omega) (by omega) ?_
       intro R2 hR2
       refine x_val rfl rfl rfl (v_assign rfl) ?_
       refine x_end ?_
       refine t_norm ?_
       refine w_seq ?_
       refine rg_text ?_
       refine x_val rfl rfl rfl (v_move rfl) ?_
       refine x_val rfl rfl rfl (v_move rfl) ?_
       refine x_val rfl rfl rfl (v_move rfl) ?_
       refine x_val rfl rfl rfl (v_nilCheck rfl) ?_
       refine x_val rfl rfl rfl (v_fieldAddr (off' := 4) Tryz.underlying74 rfl sz72 (by decide) rfl rfl) ?_
       refine x_val rfl rfl rfl (v_load Tryz.underlying72 rfl rfl (at_ownL (vs := [Value.int .i64 p.first, Value.int .i64 p.days, v1, v2, rowV R es.length]) (by repeat (first | exact List.Mem.head _ | apply List.Mem.tail)) rfl)) ?_
       refine x_val (v := Value.int .i64 (m : Nat)) rfl rfl rfl (by rw [← hm9]; exact v_move rfl) ?_
       refine x_val rfl rfl rfl (v_scut_from (i := m) Tryz.underlying72 sz91 rfl rfl hml (by omega)) ?_
       refine x_append_any (e := 91) (ao := if rowC R = m then rowA R else (rowA R).map (fun a => a.add (m * 4))) (m := es.length - m) (news := entsC (es.drop m)) ((p151, Obj.cells (entC x).toArray 91 (0, 0)) :: ((bs, Obj.cells ([Value.int .i64 p.first, Value.int .i64 p.days, v1, v2, rowV R es.length]).toArray 74 (0, 0)) :: (rowO 91 R ++ l2))) (l2 := []) R2 (len := m + 1) (xs := entsC (es.take m) ++ entC x) rfl rfl rfl rfl (by simp [List.append_assoc]) hR2 Tryz.underlying72 ap91 rfl (by rw [entsC_len, List.length_drop]) (fun h => by split at h; (· omega); rw [Option.map_eq_none_iff] at h; have := row_none hR h; omega) (fun w1 hw1 a ha j u hu => row_tail (e := 91) hR hw1 (fun q hq => by simp [hq]) hml ha hu) (entsC_one _) (by simp only [maxLen]; omega) (by omega) ?_
       intro R3 hR3
       have e9 : m + 1 + (es.length - m) = es.length + 1 := by omega
       rw [e9] at hR3 ⊢
       refine x_val rfl rfl rfl (v_nilCheck rfl) ?_
       refine x_val rfl rfl rfl (v_fieldAddr (off' := 4) Tryz.underlying74 rfl sz72 (by decide) rfl rfl) ?_
       refine x_store (cs := [Value.int .i64 p.first, Value.int .i64 p.days, v1, v2, rowV R es.length]) (off := 4) (e := 74) (l2 := rowO 91 R ++ l2 ++ rowO 91 R3) [(p151, Obj.cells (entC x).toArray 91 (0, 0))] rfl rfl rfl (by simp [List.append_assoc]) sz72 rfl (by show 5 ≤ 5; decide) ?_
       refine x_end ?_
       refine t_norm ?_
       refine w_seq ?_
       refine rg_text ?_
       refine x_val rfl rfl rfl (v_assign rfl) ?_
       refine x_end ?_
       refine t_norm ?_
       refine w_ret ?_
       have h8 : rowOK 4 R3 (insE es x).length (entsC (insE es x)) := by rw [insE_len, ← hins, entsC_app]; have e8 : entsC (x :: es.drop m) = entC x ++ entsC (es.drop m) := rfl; rw [e8, ← List.append_assoc]; exact hR3
       refine ret1 rfl rfl (fun w' hm => ⟨R3, by rw [hT], by rw [hT]; exact h8, ?_⟩)
       rw [hT]
       show Mem w' ((bs, Obj.cells ([Value.int .i64 p.first, Value.int .i64 p.days, v1, v2, rowV R3 (insE es x).length]).toArray 74 (0, 0)) :: (rowO 91 R3 ++ l2)) ro
       rw [insE_len]
       have hm1 := hm.less (own' := (bs, Obj.cells ([Value.int .i64 p.first, Value.int .i64 p.days, v1, v2, rowV R3 (es.length + 1)]).toArray 74 (0, 0)) :: (l2 ++ rowO 91 R3)) (by
        show List.Sublist _ (_ :: _ :: _)
        refine List.Sublist.cons _ (List.Sublist.cons_cons _ ?_)
        exact (List.sublist_append_right _ _).append (List.Sublist.refl _)) (fun _ h => h)
       exact hm1.perm (List.Perm.cons _ List.perm_append_comm)
  ·have hd9 : rDash text = false := by rw [rDash_eq, ← hc49, hb49, hb48, hb43, hb42, hb35]
   have hB : rB text = rA text := by unfold rB; rw [hd9]; rfl
   refine w_skip ?_
   refine t_norm ?_
   refine w_seq ?_
   refine w_seq ?_
   refine rg_text ?_
   refine x_val rfl rfl rfl (v_move rfl) ?_
   refine x_bool rfl rfl rfl (v_not rfl) ?_
   intro b59 hb59
   refine x_val rfl rfl rfl (v_move rfl) ?_
   refine x_if [] rfl rfl rfl rfl rfl (fun hg => by obtain ⟨hg0, _⟩ := hg; subst hg0; (try simp only [Qy1, Qy2, gvl_nil, gvl_t, gvl_f]); exact v_move rfl) ?_
   refine x_if [] rfl rfl rfl rfl rfl (fun hg => by obtain ⟨hg0, _⟩ := hg; subst hg0; (try simp only [Qy1, Qy2, gvl_nil, gvl_t, gvl_f]); exact v_move rfl) ?_
   refine x_if [] rfl rfl rfl rfl rfl (fun hg => by obtain ⟨hg0, _⟩ := hg; subst hg0; (try simp only [Qy1, Qy2, gvl_nil, gvl_t, gvl_f]); exact v_len_str Tryz.underlying9 rfl) ?_
   refine x_ifb [] rfl rfl rfl rfl rfl (fun hg => by obtain ⟨hg0, _⟩ := hg; subst hg0; (try simp only [Qy1, Qy2, gvl_nil, gvl_t, gvl_f]); exact v_neq rfl rfl) ?_
   intro b64 hb64
   refine x_bool rfl rfl rfl (v_or rfl rfl) ?_
   intro b65 hb65
   refine x_end ?_
   refine t_norm ?_
   refine w_cond rfl (fun hc65 => ?_) (fun hc65 => ?_)
   ·have hro : rOK text = false := by rw [rOK_eq, hB, ← hb35, ← hb59, ← hb64, ← hb65, hc65]; rfl
    have hT : takeQ p es text day = (es, 11) := rT_form hro
    refine w_seq ?_
    refine rg_text ?_
    refine x_val rfl rfl rfl (v_assign rfl) ?_
    refine x_end ?_
    refine t_norm ?_
    refine w_ret ?_
    refine t_ret ?_
    refine ret1 rfl rfl (fun w' hm => ⟨R, by rw [hT], by rw [hT]; exact hR, ?_⟩)
    rw [hT]
    exact hm.less (by repeat (first | exact List.Sublist.refl _ | apply List.Sublist.cons)) (fun s hs => by repeat (first | exact hs | apply List.mem_cons_of_mem))
   ·have hro : rOK text = true := by rw [rOK_eq, hB, ← hb35, ← hb59, ← hb64, ← hb65, hc65]; rfl
    refine w_skip ?_
    refine t_norm ?_
    refine w_seq ?_
    refine rg_text ?_
    refine x_val rfl rfl rfl (v_move rfl) ?_
    refine x_callb rfl rfl rfl Tryz.func46 (by kernel_rfl) rfl (fun w1 hw1 => c_risDay day w1) ?_
    intro b67 hb67
    refine x_val rfl rfl rfl (v_assign rfl) ?_
    refine x_end ?_
    refine t_norm ?_
    refine w_seq ?_
    refine w_seq ?_
    refine rg_text ?_
    refine x_val rfl rfl rfl (v_move rfl) ?_
    refine x_bool rfl rfl rfl (v_not rfl) ?_
    intro b69 hb69
    refine x_end ?_
    refine t_norm ?_
    refine w_cond rfl (fun hc69 => ?_) (fun hc69 => ?_)
    ·have hT : takeQ p es text day = (es, 1) := rT_arg hro (fun h => by rw [hb69, hb67, decide_eq_true h] at hc69; cases hc69)
     refine w_seq ?_
     refine rg_text ?_
     refine x_val rfl rfl rfl (v_assign rfl) ?_
     refine x_end ?_
     refine t_norm ?_
     refine w_ret ?_
     refine t_ret ?_
     refine ret1 rfl rfl (fun w' hm => ⟨R, by rw [hT], by rw [hT]; exact hR, ?_⟩)
     rw [hT]
     exact hm.less (by repeat (first | exact List.Sublist.refl _ | apply List.Sublist.cons)) (fun s hs => by repeat (first | exact hs | apply List.mem_cons_of_mem))
    ·have hod : okDay day := by rw [hb69, hb67] at hc69; simpa using hc69
     refine w_skip ?_
     refine t_norm ?_
     refine w_seq ?_
     refine rg_text ?_
     refine x_val rfl rfl rfl (v_move rfl) ?_
     refine x_val rfl rfl rfl (v_nilCheck rfl) ?_
     refine x_val rfl rfl rfl (v_fieldAddr (off' := 0) Tryz.underlying74 rfl sz26 (by decide) rfl rfl) ?_
     refine x_val rfl rfl rfl (v_loadN (vs := ([Value.int .i64 p.first, Value.int .i64 p.days, v1, v2, rowV R es.length]).take 4) Tryz.underlying26 rfl sz26 rfl (fun j hj => at_ownL (vs := [Value.int .i64 p.first, Value.int .i64 p.days, v1, v2, rowV R es.length]) (.head _) (by match j, hj with | 0, _ | 1, _ | 2, _ | 3, _ => rfl))) ?_
     refine x_val rfl rfl rfl (v_move rfl) ?_
     refine x_callv (v := Value.tuple #[.int .i64 ((numP p (rA text).1).getD 0), .bool (numP p (rA text).1).isSome]) rfl rfl rfl Tryz.func47 (by kernel_rfl) rfl (fun w1 hw1 => c_rNumber p (rA text).1 w1 (hp w1 _ (hw1.less (List.Sublist.refl _) (fun s hs => by repeat (first | exact hs | apply List.mem_cons_of_mem)))) (keep_new hn32 hw1 (by repeat (first | exact List.Mem.head _ | apply List.Mem.tail)) hm32)) ?_
     refine x_val rfl rfl rfl (v_move rfl) ?_
     refine x_val rfl rfl rfl (v_extract rfl rfl) ?_
     refine x_bool rfl rfl rfl (v_extract rfl rfl) ?_
     intro b78 hb78
     refine x_val rfl rfl rfl (v_assign rfl) ?_
     refine x_val rfl rfl rfl (v_assign rfl) ?_
     refine x_end ?_
     refine t_norm ?_
     refine w_seq ?_
     refine rg_text ?_
     refine x_val rfl rfl rfl (v_move rfl) ?_
     refine x_val rfl rfl rfl (v_nilCheck rfl) ?_
     refine x_val rfl rfl rfl (v_fieldAddr (off' := 0) Tryz.underlying74 rfl sz26 (by decide) rfl rfl) ?_
     refine x_val rfl rfl rfl (v_loadN (vs := ([Value.int .i64 p.first, Value.int .i64 p.days, v1, v2, rowV R es.length]).take 4) Tryz.underlying26 rfl sz26 rfl (fun j hj => at_ownL (vs := [Value.int .i64 p.first, Value.int .i64 p.days, v1, v2, rowV R es.length]) (.head _) (by match j, hj with | 0, _ | 1, _ | 2, _ | 3, _ => rfl))) ?_
     refine x_val rfl rfl rfl (v_move rfl) ?_
     refine x_callv (v := Value.tuple #[.int .i64 ((numP p (rB text).1).getD 0), .bool (numP p (rB text).1).isSome]) rfl rfl rfl Tryz.func47 (by kernel_rfl) rfl (fun w1 hw1 => by
      rw [hB]
      exact c_rNumber p (rA text).1 w1 (hp w1 _ (hw1.less (List.Sublist.refl _) (fun s hs => by repeat (first | exact hs | apply List.mem_cons_of_mem)))) (keep_new hn32 hw1 (by repeat (first | exact List.Mem.head _ | apply List.Mem.tail)) hm32)) ?_
     refine x_val rfl rfl rfl (v_move rfl) ?_
     refine x_val rfl rfl rfl (v_extract rfl rfl) ?_
     refine x_bool rfl rfl rfl (v_extract rfl rfl) ?_
     intro b87 hb87
     refine x_val rfl rfl rfl (v_assign rfl) ?_
     refine x_val rfl rfl rfl (v_assign rfl) ?_
     refine x_end ?_
     refine t_norm ?_
     refine w_seq_cut (σ := Ent) (fun x => (takeQ p es text day = if meets es x = true then (es, 22) else (insE es x, 0)) ∧ entOK x ∧ x.day = day ∧ x.sk = tkS text) (fun x => [(0, Value.pointer (some ⟨bs, 0, none⟩)), (2, Value.int .i64 x.day), (8, Value.bool x.sk), (13, Value.int .i64 x.fr), (15, Value.int .i64 x.to)]) (fun x => (bs, Obj.cells ([Value.int .i64 p.first, Value.int .i64 p.days, v1, v2, rowV R es.length]).toArray 74 (0, 0)) :: (rowO 91 R ++ l2)) (fun x => ro) ?_ ?_
     ·refine w_seq ?_
      refine rg_text ?_
      refine x_val rfl rfl rfl (v_move rfl) ?_
      refine x_bool rfl rfl rfl (v_not rfl) ?_
      intro b89 hb89
      refine x_val rfl rfl rfl (v_move rfl) ?_
      refine x_if [] rfl rfl rfl rfl rfl (fun hg => by obtain ⟨hg0, _⟩ := hg; subst hg0; (try simp only [Qy1, Qy2, gvl_nil, gvl_t, gvl_f]); exact v_move rfl) ?_
      refine x_ifb [] rfl rfl rfl rfl rfl (fun hg => by obtain ⟨hg0, _⟩ := hg; subst hg0; (try simp only [Qy1, Qy2, gvl_nil, gvl_t, gvl_f]); exact v_not rfl) ?_
      intro b92 hb92
      refine x_bool rfl rfl rfl (v_or rfl rfl) ?_
      intro b93 hb93
      refine x_val rfl rfl rfl (v_move rfl) ?_
      refine x_if [] rfl rfl rfl rfl rfl (fun hg => by obtain ⟨hg0, _⟩ := hg; subst hg0; (try simp only [Qy1, Qy2, gvl_nil, gvl_t, gvl_f]); exact v_move rfl) ?_
      refine x_if [] rfl rfl rfl rfl rfl (fun hg => by obtain ⟨hg0, _⟩ := hg; subst hg0; (try simp only [Qy1, Qy2, gvl_nil, gvl_t, gvl_f]); exact v_move rfl) ?_
      refine x_ifb [] rfl rfl rfl rfl rfl (fun hg => by obtain ⟨hg0, _⟩ := hg; subst hg0; (try simp only [Qy1, Qy2, gvl_nil, gvl_t, gvl_f]); exact v_lss rfl rfl) ?_
      intro b97 hb97
      refine x_bool rfl rfl rfl (v_or rfl rfl) ?_
      intro b98 hb98
      refine x_val rfl rfl rfl (v_move rfl) ?_
      refine x_if [] rfl rfl rfl rfl rfl (fun hg => by obtain ⟨hg0, _⟩ := hg; subst hg0; (try simp only [Qy1, Qy2, gvl_nil, gvl_t, gvl_f]); exact v_move rfl) ?_
      refine x_if [] rfl rfl rfl rfl rfl (fun hg => by obtain ⟨hg0, _⟩ := hg; subst hg0; (try simp only [Qy1, Qy2, gvl_nil, gvl_t, gvl_f]); exact v_move rfl) ?_
      have r1 := numP_rng p (rA text).1
      have r2 := numP_rng p (rB text).1
      refine x_if [] rfl rfl rfl rfl rfl (fun hg => by obtain ⟨hg0, _⟩ := hg; subst hg0; (try simp only [Qy1, Qy2, gvl_nil, gvl_t, gvl_f]); exact v_subi rfl rfl rfl (by first | omega | (dsimp only; omega))) ?_
      refine x_if [] rfl rfl rfl rfl rfl (fun hg => by obtain ⟨hg0, _⟩ := hg; subst hg0; (try simp only [Qy1, Qy2, gvl_nil, gvl_t, gvl_f]); exact v_addi rfl rfl rfl (by first | omega | (dsimp only; omega))) ?_
      refine x_ifb [] rfl rfl rfl rfl rfl (fun hg => by obtain ⟨hg0, _⟩ := hg; subst hg0; (try simp only [Qy1, Qy2, gvl_nil, gvl_t, gvl_f]); exact v_gtr rfl rfl) ?_
      intro b104 hb104
      refine x_bool rfl rfl rfl (v_or rfl rfl) ?_
      intro b105 hb105
      refine x_end ?_
      refine t_norm ?_
      refine w_cond rfl (fun hc105 => ?_) (fun hc105 => ?_)
      ·have hT : takeQ p es text day = (es, 32) := rT_none hro hod (by
        have hc := hc105
        have r1 := numP_rng p (rA text).1
        have r2 := numP_rng p (rB text).1
        simp only [hb105, hb104, hb98, hb97, hb93, hb92, hb89, hb87, hb78, Bool.or_eq_true, Bool.not_eq_true', decide_eq_true_eq] at hc
        rcases hc with ((hc | hc) | hc) | hc
        ·exact .inl hc
        ·exact .inr (.inl hc)
        ·exact .inr (.inr (.inl hc))
        ·exact .inr (.inr (.inr (by omega))))
       refine w_seq ?_
       refine rg_text ?_
       refine x_val rfl rfl rfl (v_assign rfl) ?_
       refine x_end ?_
       refine t_norm ?_
       refine w_ret ?_
       refine t_ret ?_
       refine ret1 rfl rfl (fun w' hm => ⟨R, by rw [hT], by rw [hT]; exact hR, ?_⟩)
       rw [hT]
       exact hm.less (by repeat (first | exact List.Sublist.refl _ | apply List.Sublist.cons)) (fun s hs => by repeat (first | exact hs | apply List.mem_cons_of_mem))
      ·have hc := hc105
       simp only [hb105, hb104, hb98, hb97, hb93, hb92, hb89, hb87, hb78, Bool.or_eq_false_iff, Bool.not_eq_false', decide_eq_false_iff_not] at hc
       obtain ⟨⟨⟨h1, h2⟩, h3⟩, h4⟩ := hc
       have h9 := rT_some (p := p) (es := es) (text := text) hro hod h1 h2 h3 (by omega)
       refine w_skip ?_
       exact c_norm (⟨((numP p (rA text).1).getD 0), ((numP p (rB text).1).getD 0), tkS text, day⟩ : Ent) ⟨h9.2, h9.1, rfl, rfl⟩ (by repeat (first | exact Sub.nil | refine Sub.cons rfl ?_)) (fun w1 h => h.less (by repeat (first | exact List.Sublist.refl _ | apply List.Sublist.cons)) (fun s hs => by repeat (first | exact hs | apply List.mem_cons_of_mem)))
     ·rintro x ⟨hTx, hx, hxd, hxs⟩
      refine w_seq ?_
      refine rg_text ?_
      refine x_val rfl rfl rfl (v_assign rfl) ?_
      refine x_end ?_
      refine t_norm ?_
      refine w_seq ?_
      refine w_seq ?_
      refine rg_text ?_
      refine x_val rfl rfl rfl (v_assign rfl) ?_
      refine x_end ?_
      refine t_norm ?_
      refine w_block ?_
      obtain ⟨e1, e2, e3, e4, e5⟩ := id hx
      have e6 := e5
      unfold okDay at e6
      refine w_loop (σ := Nat) (fun k => k ≤ es.length ∧ ∀ j (h : j < es.length), j < k → ¬(x.fr ≤ es[j].to ∧ es[j].fr ≤ x.to)) (fun k => [(0, .pointer (some ⟨bs, 0, none⟩)), (2, Value.int .i64 x.day), (8, Value.bool x.sk), (13, Value.int .i64 x.fr), (15, Value.int .i64 x.to), (17, Value.int .i64 (plc es x.fr k : Nat)), (18, Value.int .i64 (k : Nat))]) (fun k => (bs, Obj.cells ([Value.int .i64 p.first, Value.int .i64 p.days, v1, v2, rowV R es.length]).toArray 74 (0, 0)) :: (rowO 91 R ++ l2)) (fun k => ro) (fun k => es.length - k) (0) (⟨Nat.zero_le _, by intros; omega⟩) (l_start (by repeat (first | exact Sub.nil | refine Sub.cons rfl ?_)) (fun _ h => h)) ?_
      rintro k ⟨hk, hno⟩
      refine w_state ([(0, .pointer (some ⟨bs, 0, none⟩)), (2, Value.int .i64 x.day), (8, Value.bool x.sk), (13, Value.int .i64 x.fr), (15, Value.int .i64 x.to), (17, Value.int .i64 (plc es x.fr k : Nat)), (18, Value.int .i64 (k : Nat))]) ((bs, Obj.cells ([Value.int .i64 p.first, Value.int .i64 p.days, v1, v2, rowV R es.length]).toArray 74 (0, 0)) :: (rowO 91 R ++ l2)) (ro) ?_
      refine w_seq ?_
      refine w_seq ?_
      refine rg_text ?_
      refine x_val rfl rfl rfl (v_move rfl) ?_
      refine x_val rfl rfl rfl (v_move rfl) ?_
      refine x_val rfl rfl rfl (v_nilCheck rfl) ?_
      refine x_val rfl rfl rfl (v_fieldAddr (off' := 4) Tryz.underlying74 rfl sz72 (by decide) rfl rfl) ?_
      refine x_val rfl rfl rfl (v_load Tryz.underlying72 rfl rfl (at_ownL (vs := [Value.int .i64 p.first, Value.int .i64 p.days, v1, v2, rowV R es.length]) (by repeat (first | exact List.Mem.head _ | apply List.Mem.tail)) rfl)) ?_
      refine x_val rfl rfl rfl (v_len_slice Tryz.underlying72 rfl) ?_
      refine x_bool rfl rfl rfl (v_lss rfl rfl) ?_
      intro b112 hb112
      refine x_end ?_
      refine t_norm ?_
      refine w_cond rfl (fun hc112 => ?_) (fun hc112 => ?_)
      ·simp only [hb112, Qz1, Qz2, Qz3, Qz4, Qz5, Qz6, Qz7, Qz8, Qz9, Qz0] at hc112
       have hkl : k < es.length := by omega
       obtain ⟨bg, csg, cpg, hge, _⟩ := hR.cell (j := 0) (by rw [entsC_len]; omega)
       refine w_skip ?_
       refine t_norm ?_
       refine w_seq ?_
       refine w_block ?_
       refine w_seq ?_
       refine rg_text ?_
       refine x_val rfl rfl rfl (v_move rfl) ?_
       refine x_val rfl rfl rfl (v_nilCheck rfl) ?_
       refine x_val rfl rfl rfl (v_fieldAddr (off' := 4) Tryz.underlying74 rfl sz72 (by decide) rfl rfl) ?_
       refine x_val rfl rfl rfl (v_load Tryz.underlying72 rfl rfl (at_ownL (vs := [Value.int .i64 p.first, Value.int .i64 p.days, v1, v2, rowV R es.length]) (by repeat (first | exact List.Mem.head _ | apply List.Mem.tail)) rfl)) ?_
       refine x_val rfl rfl rfl (v_move rfl) ?_
       refine x_val rfl rfl rfl (v_indexAddr Tryz.underlying72 sz91 (congrArg (fun q => some (rowV q es.length)) hge) rfl (by first | omega | (dsimp only; omega)) rfl) ?_
       refine x_val rfl rfl rfl (v_fieldAddr Tryz.underlying91 rfl sz3 (by decide) rfl rfl) ?_
       refine x_val rfl rfl rfl (v_load Tryz.underlying3 rfl rfl (at_ownL (vs := csg) (show (bg, Obj.cells csg.toArray 91 (0, 0)) ∈ _ by rw [hge]; simp [rowO]) (rowE_at (j := 1) (hge ▸ hR) rfl hkl (show 1 < 4 by decide)))) ?_
       refine x_val rfl rfl rfl (v_move rfl) ?_
       refine x_bool rfl rfl rfl (v_lss rfl rfl) ?_
       intro b124 hb124
       refine x_end ?_
       refine t_norm ?_
       refine w_cond rfl (fun hc124 => ?_) (fun hc124 => ?_)
       ·simp only [hb124, Qz1, Qz2, Qz3, Qz4, Qz5, Qz6, Qz7, Qz8, Qz9, Qz0] at hc124
        refine rg_text ?_
        refine x_val rfl rfl rfl (v_move rfl) ?_
        refine x_val rfl rfl rfl (v_addi rfl rfl rfl (by first | omega | (dsimp only; omega))) ?_
        refine x_val rfl rfl rfl (v_assign rfl) ?_
        refine x_end ?_
        refine b_norm ?_
        refine t_norm ?_
        refine rg_text ?_
        refine x_val rfl rfl rfl (v_move rfl) ?_
        refine x_val rfl rfl rfl (v_addi rfl rfl rfl (by first | omega | (dsimp only; omega))) ?_
        refine x_val rfl rfl rfl (v_assign rfl) ?_
        refine x_end ?_
        exact l_norm (x := k) (μ := fun q : Nat => es.length - q) (k + 1) ⟨hkl, fun j hj hjk => by rcases Nat.lt_succ_iff_lt_or_eq.1 hjk with h3 | rfl; (· exact hno j hj h3); omega⟩ (by omega) (by (try dsimp only); rw [plc_yes hkl (by omega)]; exact (by repeat (first | exact Sub.nil | refine Sub.cons rfl ?_))) (fun _ h => h)
       ·simp only [hb124, Qz1, Qz2, Qz3, Qz4, Qz5, Qz6, Qz7, Qz8, Qz9, Qz0] at hc124
        refine w_seq ?_
        refine rg_text ?_
        refine x_val rfl rfl rfl (v_move rfl) ?_
        refine x_val rfl rfl rfl (v_nilCheck rfl) ?_
        refine x_val rfl rfl rfl (v_fieldAddr (off' := 4) Tryz.underlying74 rfl sz72 (by decide) rfl rfl) ?_
        refine x_val rfl rfl rfl (v_load Tryz.underlying72 rfl rfl (at_ownL (vs := [Value.int .i64 p.first, Value.int .i64 p.days, v1, v2, rowV R es.length]) (by repeat (first | exact List.Mem.head _ | apply List.Mem.tail)) rfl)) ?_
        refine x_val rfl rfl rfl (v_move rfl) ?_
        refine x_val rfl rfl rfl (v_indexAddr Tryz.underlying72 sz91 (congrArg (fun q => some (rowV q es.length)) hge) rfl (by first | omega | (dsimp only; omega)) rfl) ?_
        refine x_val rfl rfl rfl (v_fieldAddr Tryz.underlying91 rfl sz3 (by decide) rfl rfl) ?_
        refine x_val rfl rfl rfl (v_load Tryz.underlying3 rfl rfl (at_ownL (vs := csg) (show (bg, Obj.cells csg.toArray 91 (0, 0)) ∈ _ by rw [hge]; simp [rowO]) (rowE_at (j := 0) (hge ▸ hR) rfl hkl (show 0 < 4 by decide)))) ?_
        refine x_val rfl rfl rfl (v_move rfl) ?_
        refine x_bool rfl rfl rfl (v_leq rfl rfl) ?_
        intro b136 hb136
        refine x_end ?_
        refine t_norm ?_
        refine w_cond rfl (fun hc136 => ?_) (fun hc136 => ?_)
        ·simp only [hb136, Qz1, Qz2, Qz3, Qz4, Qz5, Qz6, Qz7, Qz8, Qz9, Qz0] at hc136
         have hT : takeQ p es text day = (es, 22) := by rw [hTx, if_pos (meets_yes ⟨es[k], List.getElem_mem hkl, by omega, by omega⟩)]
         refine w_seq ?_
         refine rg_text ?_
         refine x_val rfl rfl rfl (v_assign rfl) ?_
         refine x_end ?_
         refine t_norm ?_
         refine w_ret ?_
         refine b_ret ?_
         refine t_ret ?_
         refine t_ret ?_
         refine b_ret ?_
         refine t_ret ?_
         refine ret1 rfl rfl (fun w' hm => ⟨R, by rw [hT], by rw [hT]; exact hR, ?_⟩)
         rw [hT]
         exact hm.less (by repeat (first | exact List.Sublist.refl _ | apply List.Sublist.cons)) (fun s hs => by repeat (first | exact hs | apply List.mem_cons_of_mem))
        ·simp only [hb136, Qz1, Qz2, Qz3, Qz4, Qz5, Qz6, Qz7, Qz8, Qz9, Qz0] at hc136
         refine w_skip ?_
         refine b_norm ?_
         refine t_norm ?_
         refine rg_text ?_
         refine x_val rfl rfl rfl (v_move rfl) ?_
         refine x_val rfl rfl rfl (v_addi rfl rfl rfl (by first | omega | (dsimp only; omega))) ?_
         refine x_val rfl rfl rfl (v_assign rfl) ?_
         refine x_end ?_
         exact l_norm (x := k) (μ := fun q : Nat => es.length - q) (k + 1) ⟨hkl, fun j hj hjk => by rcases Nat.lt_succ_iff_lt_or_eq.1 hjk with h3 | rfl; (· exact hno j hj h3); omega⟩ (by omega) (by (try dsimp only); rw [plc_no hkl (by omega)]; exact (by repeat (first | exact Sub.nil | refine Sub.cons rfl ?_))) (fun _ h => h)
      ·simp only [hb112, Qz1, Qz2, Qz3, Qz4, Qz5, Qz6, Qz7, Qz8, Qz9, Qz0] at hc112
       obtain rfl : k = es.length := by omega
       have hmt : meets es x = false := meets_iff.2 (fun j hj => hno j hj hj)
       have hT : takeQ p es text day = (insE es x, 0) := by rw [hTx, hmt]; rfl
       obtain ⟨m, hm9⟩ : ∃ m, plc es x.fr es.length = m := ⟨_, rfl⟩
       have hml : m ≤ es.length := hm9 ▸ plc_le es x.fr _
       have hins := plc_ins hsrt hx hmt
       rw [hm9] at hins
       have hcap := hR.cap
       refine w_exit ?_
       refine t_exit ?_
       refine t_exit ?_
       refine b_hit ?_
       refine t_norm ?_
       refine w_seq ?_
       refine rg_text ?_
       refine x_val rfl rfl rfl (v_assign rfl) ?_
       refine x_end ?_
       refine t_norm ?_
       refine w_seq ?_
       refine rg_text ?_
       refine x_val rfl rfl rfl (v_move rfl) ?_
       refine x_val rfl rfl rfl (v_move rfl) ?_
       refine x_val rfl rfl rfl (v_nilCheck rfl) ?_
       refine x_val rfl rfl rfl (v_fieldAddr (off' := 4) Tryz.underlying74 rfl sz72 (by decide) rfl rfl) ?_
       refine x_val rfl rfl rfl (v_load Tryz.underlying72 rfl rfl (at_ownL (vs := [Value.int .i64 p.first, Value.int .i64 p.days, v1, v2, rowV R es.length]) (by repeat (first | exact List.Mem.head _ | apply List.Mem.tail)) rfl)) ?_
       refine x_val (v := Value.int .i64 (m : Nat)) rfl rfl rfl (by rw [← hm9]; exact v_move rfl) ?_
       refine x_val rfl rfl rfl (v_scut_to (j := m) Tryz.underlying72 sz91 rfl rfl (by omega)) ?_
       refine x_append_any (e := 91) (ao := rowA R) (c2 := rowC R) (m := m) (news := entsC (es.take m)) ((bs, Obj.cells ([Value.int .i64 p.first, Value.int .i64 p.days, v1, v2, rowV R es.length]).toArray 74 (0, 0)) :: (rowO 91 R ++ l2)) (l2 := []) none (len := 0) (xs := []) rfl rfl rfl rfl (by simp [rowO]) rowOK_nil Tryz.underlying72 ap91 rfl (by rw [entsC_len, List.length_take, Nat.min_eq_left hml]) (fun h => by have := row_none hR h; omega) (fun w1 hw1 a ha j u hu => row_head (e := 91) hR hw1 (fun q hq => List.mem_cons_of_mem _ (List.mem_append_left _ hq)) ha hu) (entsC_one _) (by simp only [maxLen]; omega) (by omega) ?_
       intro R1 hR1
       rw [List.nil_append] at hR1
       rw [show 0 + m = m from Nat.zero_add m] at hR1 ⊢
       refine x_val rfl rfl rfl (v_assign rfl) ?_
       refine x_end ?_
       refine t_norm ?_
       refine w_seq ?_
       refine rg_text ?_
       refine x_val rfl rfl rfl (v_move rfl) ?_
       refine x_val rfl rfl rfl (v_move rfl) ?_
       refine x_val rfl rfl rfl (v_move rfl) ?_
       refine x_val rfl rfl rfl (v_move rfl) ?_
       refine x_val rfl rfl rfl (v_move rfl) ?_
       refine x_val (v := Value.agg (entC x).toArray) rfl rfl rfl (v_buildL (places := [(0, 1), (1, 1), (2, 1), (3, 1)]) Tryz.underlying91 zr91 (by kernel_rfl) rfl rfl) ?_
       refine x_buildSliceL (cs := entC x) rfl rfl rfl Tryz.underlying72 sz91 zr91 rfl rfl rfl ?_
       intro p151
       refine x_append (e := 91) ((p151, Obj.cells (entC x).toArray 91 (0, 0)) :: ((bs, Obj.cells ([Value.int .i64 p.first, Value.int .i64 p.days, v1, v2, rowV R es.length]).toArray 74 (0, 0)) :: (rowO 91 R ++ l2))) (l2 := []) R1 (len := m) (xs := entsC (es.take m)) rfl rfl rfl rfl (by simp [List.append_assoc]) hR1 Tryz.underlying72 ap91 rfl rfl (m := 1) (news := entC x) (fun j hj => at_ownL (vs := entC x) (.head _) (by rw [Nat.zero_add]; exact List.getElem?_eq_getElem hj)) rfl (by simp only [maxLen]; omega) (by omega) ?_
       intro R2 hR2
       refine x_val rfl rfl rfl (v_assign rfl) ?_
       refine x_end ?_
       refine t_norm ?_
       refine w_seq ?_
       refine rg_text ?_
       refine x_val rfl rfl rfl (v_move rfl) ?_
       refine x_val rfl rfl rfl (v_move rfl) ?_
       refine x_val rfl rfl rfl (v_move rfl) ?_
       refine x_val rfl rfl rfl (v_nilCheck rfl) ?_
       refine x_val rfl rfl rfl (v_fieldAddr (off' := 4) Tryz.underlying74 rfl sz72 (by decide) rfl rfl) ?_
       refine x_val rfl rfl rfl (v_load Tryz.underlying72 rfl rfl (at_ownL (vs := [Value.int .i64 p.first, Value.int .i64 p.days, v1, v2, rowV R es.length]) (by repeat (first | exact List.Mem.head _ | apply List.Mem.tail)) rfl)) ?_
       refine x_val (v := Value.int .i64 (m : Nat)) rfl rfl rfl (by rw [← hm9]; exact v_move rfl) ?_
       refine x_val rfl rfl rfl (v_scut_from (i := m) Tryz.underlying72 sz91 rfl rfl hml (by omega)) ?_
       refine x_append_any (e := 91) (ao := if rowC R = m then rowA R else (rowA R).map (fun a => a.add (m * 4))) (m := es.length - m) (news := entsC (es.drop m)) ((p151, Obj.cells (entC x).toArray 91 (0, 0)) :: ((bs, Obj.cells ([Value.int .i64 p.first, Value.int .i64 p.days, v1, v2, rowV R es.length]).toArray 74 (0, 0)) :: (rowO 91 R ++ l2))) (l2 := []) R2 (len := m + 1) (xs := entsC (es.take m) ++ entC x) rfl rfl rfl rfl (by simp [List.append_assoc]) hR2 Tryz.underlying72 ap91 rfl (by rw [entsC_len, List.length_drop]) (fun h => by split at h; (· omega); rw [Option.map_eq_none_iff] at h; have := row_none hR h; omega) (fun w1 hw1 a ha j u hu => row_tail (e := 91) hR hw1 (fun q hq => by simp [hq]) hml ha hu) (entsC_one _) (by simp only [maxLen]; omega) (by omega) ?_
       intro R3 hR3
       have e9 : m + 1 + (es.length - m) = es.length + 1 := by omega
       rw [e9] at hR3 ⊢
       refine x_val rfl rfl rfl (v_nilCheck rfl) ?_
       refine x_val rfl rfl rfl (v_fieldAddr (off' := 4) Tryz.underlying74 rfl sz72 (by decide) rfl rfl) ?_
       refine x_store (cs := [Value.int .i64 p.first, Value.int .i64 p.days, v1, v2, rowV R es.length]) (off := 4) (e := 74) (l2 := rowO 91 R ++ l2 ++ rowO 91 R3) [(p151, Obj.cells (entC x).toArray 91 (0, 0))] rfl rfl rfl (by simp [List.append_assoc]) sz72 rfl (by show 5 ≤ 5; decide) ?_
       refine x_end ?_
       refine t_norm ?_
       refine w_seq ?_
       refine rg_text ?_
       refine x_val rfl rfl rfl (v_assign rfl) ?_
       refine x_end ?_
       refine t_norm ?_
       refine w_ret ?_
       have h8 : rowOK 4 R3 (insE es x).length (entsC (insE es x)) := by rw [insE_len, ← hins, entsC_app]; have e8 : entsC (x :: es.drop m) = entC x ++ entsC (es.drop m) := rfl; rw [e8, ← List.append_assoc]; exact hR3
       refine ret1 rfl rfl (fun w' hm => ⟨R3, by rw [hT], by rw [hT]; exact h8, ?_⟩)
       rw [hT]
       show Mem w' ((bs, Obj.cells ([Value.int .i64 p.first, Value.int .i64 p.days, v1, v2, rowV R3 (insE es x).length]).toArray 74 (0, 0)) :: (rowO 91 R3 ++ l2)) ro
       rw [insE_len]
       have hm1 := hm.less (own' := (bs, Obj.cells ([Value.int .i64 p.first, Value.int .i64 p.days, v1, v2, rowV R3 (es.length + 1)]).toArray 74 (0, 0)) :: (l2 ++ rowO 91 R3)) (by
        show List.Sublist _ (_ :: _ :: _)
        refine List.Sublist.cons _ (List.Sublist.cons_cons _ ?_)
        exact (List.sublist_append_right _ _).append (List.Sublist.refl _)) (fun _ h => h)
       exact hm1.perm (List.Perm.cons _ List.perm_append_comm)

end Go.Proofs.YtaniaihoodgmpaaGreatDoor

namespace Go.Proofs.YtaniaihoodgmpaaGreatDoor
open Go.RowKit Go.PK
set_option linter.unusedVariables false
set_option linter.unusedSimpArgs false
end Go.Proofs.YtaniaihoodgmpaaGreatDoor

namespace Go.Proofs.YtaniaihoodgmpaaGreatDoor
open Go.RowKit Go.PK
set_option linter.unusedVariables false
set_option linter.unusedSimpArgs false
end Go.Proofs.YtaniaihoodgmpaaGreatDoor

namespace Go.Proofs.YtaniaihoodgmpaaGreatDoor
open Go.RowKit Go.PK
set_option linter.unusedVariables false
set_option linter.unusedSimpArgs false

end Go.Proofs.YtaniaihoodgmpaaGreatDoor

namespace Go.Proofs.YtaniaihoodgmpaaGreatDoor
open Go.RowKit Go.PK
set_option linter.unusedVariables false
set_option linter.unusedSimpArgs false
set_option maxHeartbeats 1000000 in
set_option maxRecDepth 100000 in
theorem c_RN (s : ByteArray) (w : World) (hs : s.size ≤ 2000000) :
  Calls Tryz.prog 112 #[.string s] w fun e w' => e = .returned (.tuple #[.int .u64 ((rnL (bl s)).1 : Nat), .int .i64 ((rnL (bl s)).2.1 : Nat), .int .i64 (rnL (bl s)).2.2]) ∧ Later w w' := by
 refine enter (vs := [.string s]) Tryz.func112 rfl Tryz.ntmps112 rfl ?_
 refine w_seq ?_
 refine rg_text ?_
 refine x_val rfl rfl rfl (v_assign rfl) ?_
 refine x_val rfl rfl rfl (v_assign rfl) ?_
 refine x_val rfl rfl rfl (v_assign rfl) ?_
 refine x_end ?_
 refine t_norm ?_
 refine w_seq ?_
 refine rg_text ?_
 refine x_val rfl rfl rfl (v_assign rfl) ?_
 refine x_end ?_
 refine t_norm ?_
 refine w_seq ?_
 refine w_seq ?_
 refine rg_text ?_
 refine x_val rfl rfl rfl (v_move rfl) ?_
 refine x_val rfl rfl rfl (v_move rfl) ?_
 refine x_val rfl rfl rfl (v_len_str Tryz.underlying9 rfl) ?_
 refine x_val (v := Value.int .i64 ((min s.size 10 : Nat) : Int)) rfl rfl rfl (by rw [show ((min s.size 10 : Nat) : Int) = min (s.size : Int) 10 by omega]; exact v_min rfl rfl) ?_
 refine x_val rfl rfl rfl (v_cut_to (j := min s.size 10) Tryz.underlying9 rfl rfl (by omega)) ?_
 obtain ⟨t, ht⟩ : ∃ t, s.extract 0 (min s.size 10) = t := ⟨_, rfl⟩
 have htb : bl t = (bl s).take 10 := by rw [← ht, bl_ext, List.drop_zero, Nat.sub_zero]; by_cases h : s.size ≤ 10; (· rw [Nat.min_eq_left h, List.take_of_length_le (by rw [bl_len]; omega), List.take_of_length_le (by rw [bl_len]; omega)]); rw [Nat.min_eq_right (by omega)]
 have hts : t.size = min s.size 10 := by rw [← bl_len t, htb, List.length_take, bl_len]; omega
 have hsl : (bl s).length = s.size := bl_len s
 refine x_bytes (e := 5) (s := t) rfl rfl rfl Tryz.underlying9 Tryz.underlying45 Tryz.underlying5 (by rw [← ht]; rfl) ?_
 intro p13 cp cs fz hcp hcs
 have hce : ∀ i (h : i < t.size) (h2 : i < (bl s).length), cs[0 + i * 1]? = some (Value.int .u8 (((bl s)[i].toNat : Nat) : Int)) := fun i h h2 => by
  have e1 : cs[i]? = (cs.take t.size)[i]? := by rw [List.getElem?_take, if_pos h]
  have h3 : i < (bl t).length := by rw [bl_len]; exact h
  have e2 : (bl t)[i] = (bl s)[i] := by simp [htb]
  rw [Nat.zero_add, Nat.mul_one, e1, hcs]
  show (byC (bl t))[i]? = _
  rw [byC_at h3, e2]
 refine x_val rfl rfl rfl (v_len_slice Tryz.underlying45 rfl) ?_
 refine x_val rfl rfl rfl (v_move rfl) ?_
 refine x_end ?_
 refine t_norm ?_
 refine w_block ?_
 refine w_loop (σ := Nat × Int) (fun x => x.1 ≤ t.size ∧ (∀ j (hj : j < (bl s).length), j < x.1 → 128 ≤ (bl s)[j].toNat) ∧ (x.1 ≤ 9 → x.2 = ((gV ((bl s).take x.1) : Nat) : Int))) (fun x => [(0, Value.string s), (5, Value.int .u64 x.2), (13, Value.slice (some ⟨p13, 0, none⟩) t.size cp), (14, Value.int .i64 (t.size : Nat)), (15, Value.int .i64 (x.1 : Nat))]) (fun x => [(p13, Obj.cells cs.toArray 5 fz)]) (fun x => [(w, fun _ => True)]) (fun x => t.size - x.1) ((0, 0)) (⟨Nat.zero_le _, (fun j hj h => absurd h (Nat.not_lt_zero _)), fun _ => rfl⟩) (l_start (by repeat (first | exact Sub.nil | refine Sub.cons rfl ?_)) (fun _ h => h)) ?_
 rintro ⟨i, v⟩ ⟨hi, hH, hv⟩
 refine w_state ([(0, Value.string s), (5, Value.int .u64 v), (13, Value.slice (some ⟨p13, 0, none⟩) t.size cp), (14, Value.int .i64 (t.size : Nat)), (15, Value.int .i64 (i : Nat))]) ([(p13, Obj.cells cs.toArray 5 fz)]) ([(w, fun _ => True)]) ?_
 dsimp only at hi hH hv
 refine w_seq ?_
 refine rg_text ?_
 refine x_bool rfl rfl rfl (v_lss rfl rfl) ?_
 intro b16 hb16
 refine x_end ?_
 refine t_norm ?_
 refine w_seq ?_
 refine w_cond rfl (fun hc16 => ?_) (fun hc16 => ?_)
 ·simp only [hb16, Qz1, Qz2, Qz3, Qz4, Qz5, Qz6, Qz7, Qz8, Qz9, Qz0] at hc16
  have hit : i < t.size := by omega
  have hil : i < (bl s).length := by omega
  obtain ⟨b, hb⟩ : ∃ b, (bl s)[i] = b := ⟨_, rfl⟩
  have hbl := b.toNat_lt
  have hce1 := hce i hit hil
  have hgs := gV_succ hil
  rw [hb] at hce1
  refine w_skip ?_
  refine t_norm ?_
  refine w_seq ?_
  refine w_block ?_
  refine w_seq ?_
  refine rg_text ?_
  refine x_val rfl rfl rfl (v_move rfl) ?_
  refine x_val rfl rfl rfl (v_indexAddr Tryz.underlying45 sz5 rfl rfl (by first | omega | (dsimp only; omega)) rfl) ?_
  refine x_val rfl rfl rfl (v_load Tryz.underlying5 rfl rfl (at_ownL (vs := cs) (.head _) hce1)) ?_
  refine x_val rfl rfl rfl (v_assign rfl) ?_
  refine x_val rfl rfl rfl (v_assign rfl) ?_
  refine x_end ?_
  refine t_norm ?_
  refine w_seq ?_
  refine rg_text ?_
  refine x_val rfl rfl rfl (v_move rfl) ?_
  refine x_val rfl rfl rfl (v_move rfl) ?_
  refine x_val (v := Value.int .u8 ((b.toNat % 128 : Nat) : Int)) rfl rfl rfl (v_remN (b := 128) rfl rfl (by decide)) ?_
  refine x_val rfl rfl rfl (v_convE (c := ((b.toNat % 128 : Nat) : Int)) Tryz.underlying5 Tryz.underlying107 rfl (u64_wrap (by omega))) ?_
  refine x_val rfl rfl rfl (v_move rfl) ?_
  refine x_val rfl rfl rfl (v_muli (c := ((7 * i : Nat) : Int)) rfl rfl (by omega) (by omega)) ?_
  refine x_val rfl rfl rfl (v_shl rfl rfl (by omega) rfl) ?_
  obtain ⟨nv, hnv⟩ : ∃ nv, orK .u64 v (IntKind.u64.wrap (((b.toNat % 128 : Nat) : Int) * 2 ^ min (((7 * i : Nat) : Int)).toNat IntKind.u64.bits)) = nv := ⟨_, rfl⟩
  refine x_val (v := Value.int .u64 nv) rfl rfl rfl (by rw [← hnv]; exact v_orK rfl rfl) ?_
  have hacc : gV ((bl s).take (i + 1)) < 18446744073709551616 → nv = ((gV ((bl s).take (i + 1)) : Nat) : Int) := fun h => by
   have := acc_step hil h
   rw [hb, ← hv (by omega)] at this
   rw [← hnv]; exact this
  refine x_val rfl rfl rfl (v_assign rfl) ?_
  refine x_end ?_
  refine t_norm ?_
  refine w_seq ?_
  refine w_seq ?_
  refine rg_text ?_
  refine x_val rfl rfl rfl (v_move rfl) ?_
  refine x_bool rfl rfl rfl (v_geq rfl rfl) ?_
  intro b29 hb29
  refine x_end ?_
  refine t_norm ?_
  refine w_cond rfl (fun hc29 => ?_) (fun hc29 => ?_)
  ·simp only [hb29, Qz1, Qz2, Qz3, Qz4, Qz5, Qz6, Qz7, Qz8, Qz9, Qz0] at hc29
   have hb8 : 128 ≤ b.toNat := by omega
   refine w_exit ?_
   refine t_exit ?_
   refine b_hit ?_
   refine t_norm ?_
   refine rg_text ?_
   refine x_val rfl rfl rfl (v_addi rfl rfl rfl (by first | omega | (dsimp only; omega))) ?_
   refine x_val rfl rfl rfl (v_move rfl) ?_
   refine x_end ?_
   exact l_norm (x := (i, v)) (μ := fun q : Nat × Int => t.size - q.1) (i + 1, nv) ⟨hit, fun j hj hji => by rcases Nat.lt_succ_iff_lt_or_eq.1 hji with h | rfl; (· exact hH j hj h); rw [hb]; exact hb8, fun h9 => hacc (gV_ten hil (by dsimp only at h9; omega))⟩ (by simp only; omega) (by repeat (first | exact Sub.nil | refine Sub.cons rfl ?_)) (fun _ h => h)
  ·simp only [hb29, Qz1, Qz2, Qz3, Qz4, Qz5, Qz6, Qz7, Qz8, Qz9, Qz0] at hc29
   have hb8 : b.toNat < 128 := by omega
   have hst := rn_stop (l := (bl s)) hil (by omega) hH (by rw [hb]; exact hb8)
   rw [hb] at hst
   refine w_skip ?_
   refine t_norm ?_
   refine w_seq ?_
   refine w_seq ?_
   refine rg_text ?_
   refine x_val rfl rfl rfl (v_move rfl) ?_
   refine x_bool rfl rfl rfl (v_gtr rfl rfl) ?_
   intro b31 hb31
   refine x_val rfl rfl rfl (v_move rfl) ?_
   refine x_if [] rfl rfl rfl rfl rfl (fun hg => by obtain ⟨hg0, _⟩ := hg; subst hg0; (try simp only [Qy1, Qy2, gvl_nil, gvl_t, gvl_f]); exact v_move rfl) ?_
   refine x_ifb [] rfl rfl rfl rfl rfl (fun hg => by obtain ⟨hg0, _⟩ := hg; subst hg0; (try simp only [Qy1, Qy2, gvl_nil, gvl_t, gvl_f]); exact v_eql rfl rfl) ?_
   intro b34 hb34
   refine x_bool rfl rfl rfl (v_and rfl rfl) ?_
   intro b35 hb35
   refine x_val rfl rfl rfl (v_move rfl) ?_
   refine x_if [] rfl rfl rfl rfl rfl (fun hg => by obtain ⟨hg0, _⟩ := hg; subst hg0; (try simp only [Qy1, Qy2, gvl_nil, gvl_t, gvl_f]); exact v_move rfl) ?_
   refine x_ifb [] rfl rfl rfl rfl rfl (fun hg => by obtain ⟨hg0, _⟩ := hg; subst hg0; (try simp only [Qy1, Qy2, gvl_nil, gvl_t, gvl_f]); exact v_eql rfl rfl) ?_
   intro b38 hb38
   refine x_if [] rfl rfl rfl rfl rfl (fun hg => by obtain ⟨hg0, _⟩ := hg; subst hg0; (try simp only [Qy1, Qy2, gvl_nil, gvl_t, gvl_f]); exact v_move rfl) ?_
   refine x_if [(b35, false)] rfl rfl rfl rfl rfl (fun hg => by obtain ⟨hg0, hg1, _⟩ := hg; subst hg0; subst hg1; (try simp only [Qy1, Qy2, gvl_nil, gvl_t, gvl_f]); exact v_move rfl) ?_
   refine x_ifb [(b35, false)] rfl rfl rfl rfl rfl (fun hg => by obtain ⟨hg0, hg1, _⟩ := hg; subst hg0; subst hg1; (try simp only [Qy1, Qy2, gvl_nil, gvl_t, gvl_f]); exact v_gtr rfl rfl) ?_
   intro b41 hb41
   refine x_ifb [] rfl rfl rfl rfl rfl (fun hg => by obtain ⟨hg0, _⟩ := hg; subst hg0; (try simp only [Qy1, Qy2, gvl_nil, gvl_t, gvl_f]); exact v_and rfl rfl) ?_
   intro b42 hb42
   refine x_bool rfl rfl rfl (v_or rfl rfl) ?_
   intro b43 hb43
   refine x_end ?_
   refine t_norm ?_
   refine w_cond rfl (fun hc43 => ?_) (fun hc43 => ?_)
   ·have hc : (0 < i ∧ b.toNat = 0) ∨ (i = 9 ∧ 1 < b.toNat) := by
     rw [hb43, hb42, hb41, hb38, hb35, hb34, hb31] at hc43
     simp only [Bool.or_eq_true, Bool.and_eq_true, decide_eq_true_eq] at hc43
     omega
    rw [if_pos hc] at hst
    refine w_seq ?_
    refine rg_text ?_
    refine x_val rfl rfl rfl (v_assign rfl) ?_
    refine x_val rfl rfl rfl (v_assign rfl) ?_
    refine x_val rfl rfl rfl (v_assign rfl) ?_
    refine x_end ?_
    refine t_norm ?_
    refine w_ret ?_
    refine t_ret ?_
    refine b_ret ?_
    refine t_ret ?_
    refine t_ret ?_
    refine b_ret ?_
    refine t_ret ?_
    refine ret3 rfl rfl rfl rfl (fun w' hm => ⟨?_, hm.base (by simp)⟩)
    rw [hst]; rfl
   ·have hc : ¬((0 < i ∧ b.toNat = 0) ∨ (i = 9 ∧ 1 < b.toNat)) := by
     intro h
     have h43 : b43 = true := by
      rw [hb43, hb42, hb41, hb38, hb35, hb34, hb31]
      simp only [Bool.or_eq_true, Bool.and_eq_true, decide_eq_true_eq]
      omega
     rw [h43] at hc43; cases hc43
    rw [if_neg hc] at hst
    have hnv2 := hacc (gV_small hil (by omega) (by rw [hb]; exact hb8) (by rw [hb]; exact fun h => hc (.inr h)))
    subst hnv2
    refine w_skip ?_
    refine t_norm ?_
    refine w_seq ?_
    refine rg_text ?_
    refine x_val rfl rfl rfl (v_move rfl) ?_
    refine x_val rfl rfl rfl (v_move rfl) ?_
    refine x_val rfl rfl rfl (v_addi (c := ((i + 1 : Nat) : Int)) rfl rfl (by omega) (by omega)) ?_
    refine x_val rfl rfl rfl (v_assign rfl) ?_
    refine x_val rfl rfl rfl (v_assign rfl) ?_
    refine x_val rfl rfl rfl (v_assign rfl) ?_
    refine x_end ?_
    refine t_norm ?_
    refine w_ret ?_
    refine b_ret ?_
    refine t_ret ?_
    refine t_ret ?_
    refine b_ret ?_
    refine t_ret ?_
    refine ret3 rfl rfl rfl rfl (fun w' hm => ⟨?_, hm.base (by simp)⟩)
    rw [hst]
 ·simp only [hb16, Qz1, Qz2, Qz3, Qz4, Qz5, Qz6, Qz7, Qz8, Qz9, Qz0] at hc16
  have hend := rn_end (l := (bl s)) (fun j hj hj9 => hH j hj (by omega))
  refine w_exit ?_
  refine t_exit ?_
  refine t_exit ?_
  refine b_hit ?_
  refine t_norm ?_
  refine w_seq ?_
  refine w_seq ?_
  refine rg_text ?_
  refine x_val rfl rfl rfl (v_move rfl) ?_
  refine x_val rfl rfl rfl (v_len_str Tryz.underlying9 rfl) ?_
  refine x_bool rfl rfl rfl (v_lss rfl rfl) ?_
  intro b50 hb50
  refine x_end ?_
  refine t_norm ?_
  refine w_cond rfl (fun hc50 => ?_) (fun hc50 => ?_)
  ·simp only [hb50, Qz1, Qz2, Qz3, Qz4, Qz5, Qz6, Qz7, Qz8, Qz9, Qz0] at hc50
   rw [if_pos (by omega)] at hend
   refine w_seq ?_
   refine rg_text ?_
   refine x_val rfl rfl rfl (v_assign rfl) ?_
   refine x_val rfl rfl rfl (v_assign rfl) ?_
   refine x_val rfl rfl rfl (v_assign rfl) ?_
   refine x_end ?_
   refine t_norm ?_
   refine w_ret ?_
   refine t_ret ?_
   refine ret3 rfl rfl rfl rfl (fun w' hm => ⟨?_, hm.base (by simp)⟩)
   rw [hend]; rfl
  ·simp only [hb50, Qz1, Qz2, Qz3, Qz4, Qz5, Qz6, Qz7, Qz8, Qz9, Qz0] at hc50
   rw [if_neg (by omega)] at hend
   refine w_skip ?_
   refine t_norm ?_
   refine w_seq ?_
   refine rg_text ?_
   refine x_val rfl rfl rfl (v_assign rfl) ?_
   refine x_val rfl rfl rfl (v_assign rfl) ?_
   refine x_val rfl rfl rfl (v_assign rfl) ?_
   refine x_end ?_
   refine t_norm ?_
   refine w_ret ?_
   refine ret3 rfl rfl rfl rfl (fun w' hm => ⟨?_, hm.base (by simp)⟩)
   rw [hend]; rfl
set_option maxRecDepth 100000 in
theorem c_Uns (n : Nat) (w : World) (hn : n < 18446744073709551616) :
  Calls Tryz.prog 87 #[.int .u64 (n : Nat)] w fun e w' => e = .returned (.int .i64 (uns n)) ∧ Later w w' := by
 refine enter (vs := [.int .u64 (n : Nat)]) Tryz.func87 rfl Tryz.ntmps87 rfl ?_
 refine w_seq ?_
 refine rg_text ?_
 refine x_val rfl rfl rfl (v_assign rfl) ?_
 refine x_end ?_
 refine t_norm ?_
 refine w_seq ?_
 refine rg_text ?_
 refine x_val rfl rfl rfl (v_move rfl) ?_
 refine x_val rfl rfl rfl (v_shr (c := ((n / 2 : Nat) : Int)) rfl rfl (by decide) (by show (n : Int) / 2 ^ 1 = _; omega)) ?_
 refine x_val rfl rfl rfl (v_convE (c := ((n / 2 : Nat) : Int)) Tryz.underlying107 Tryz.underlying3 rfl (wrap_in (by omega))) ?_
 refine x_val rfl rfl rfl (v_move rfl) ?_
 refine x_val (v := Value.int .u64 ((n % 2 : Nat) : Int)) rfl rfl rfl (by rw [← and1U hn]; exact v_andK rfl rfl) ?_
 refine x_val rfl rfl rfl (v_convE (c := ((n % 2 : Nat) : Int)) Tryz.underlying107 Tryz.underlying3 rfl (wrap_in (by omega))) ?_
 refine x_val rfl rfl rfl (v_negI rfl) ?_
 refine x_val (v := Value.int .i64 (uns n)) rfl rfl rfl (by rw [← xor_uns hn]; exact v_xorK rfl rfl) ?_
 refine x_val rfl rfl rfl (v_assign rfl) ?_
 refine x_end ?_
 refine t_norm ?_
 refine w_ret ?_
 refine ret1 rfl rfl (fun w' hm => ⟨?_, hm.base (by simp)⟩)
 rfl
end Go.Proofs.YtaniaihoodgmpaaGreatDoor

namespace Go.Proofs.YtaniaihoodgmpaaGreatDoor
open Go.RowKit Go.PK
set_option linter.unusedVariables false
set_option linter.unusedSimpArgs false
set_option maxRecDepth 100000 in
theorem c_in {w : World} {l2 : List (Nat × Obj)} {ro : List Snap} {bq : Nat} {te : TypeId} {rest : List Value} (left : ByteArray) (hm : Mem w ((bq, Obj.cells ((Value.string left :: Value.int .i64 0 :: rest)).toArray te (0, 0)) :: l2) ro) (hs : left.size ≤ 2000000) :
  Calls Tryz.prog 85 #[.pointer (some ⟨bq, 0, none⟩)] w fun e w' => e = .returned (.int .u64 ((inN left).1 : Nat)) ∧ Mem w' ((bq, Obj.cells ((Value.string (inN left).2.1 :: Value.int .i64 (inN left).2.2 :: rest)).toArray te (0, 0)) :: l2) ro := by
 refine enter_in hm (vs := [.pointer (some ⟨bq, 0, none⟩)]) Tryz.func85 rfl Tryz.ntmps85 rfl ?_
 refine w_seq ?_
 refine rg_text ?_
 refine x_val rfl rfl rfl (v_assign rfl) ?_
 refine x_end ?_
 refine t_norm ?_
 refine w_seq ?_
 refine w_seq ?_
 refine rg_text ?_
 refine x_val rfl rfl rfl (v_move rfl) ?_
 refine x_val rfl rfl rfl (v_nilCheck rfl) ?_
 refine x_val rfl rfl rfl (v_fieldAddr (off' := 1) Tryz.underlying133 rfl sz36 (by decide) rfl rfl) ?_
 refine x_val rfl rfl rfl (v_load Tryz.underlying36 rfl rfl (at_ownL (vs := (Value.string left :: Value.int .i64 0 :: rest)) (.head _) rfl)) ?_
 refine x_bool rfl rfl rfl (v_neq rfl rfl) ?_
 intro b10 hb10
 refine x_end ?_
 refine t_norm ?_
 refine w_cond rfl (fun hc10 => ?_) (fun hc10 => ?_)
 ·cases hb10.symm.trans hc10
 ·skip
  refine w_skip ?_
  refine t_norm ?_
  refine w_seq ?_
  refine rg_text ?_
  refine x_val rfl rfl rfl (v_move rfl) ?_
  refine x_val rfl rfl rfl (v_nilCheck rfl) ?_
  refine x_val rfl rfl rfl (v_fieldAddr (off' := 0) Tryz.underlying133 rfl sz9 (by decide) rfl rfl) ?_
  refine x_val rfl rfl rfl (v_load Tryz.underlying9 rfl rfl (at_ownL (vs := (Value.string left :: Value.int .i64 0 :: rest)) (.head _) rfl)) ?_
  refine x_callv (v := .tuple #[.int .u64 ((rnL (bl left)).1 : Nat), .int .i64 ((rnL (bl left)).2.1 : Nat), Value.int .i64 (rnL (bl left)).2.2]) rfl rfl rfl Tryz.func112 (by kernel_rfl) rfl (fun w1 hw1 => c_RN left w1 hs) ?_
  have hrl := rn_le (bl left)
  rw [bl_len] at hrl
  refine x_val rfl rfl rfl (v_move rfl) ?_
  refine x_val rfl rfl rfl (v_extract rfl rfl) ?_
  refine x_val rfl rfl rfl (v_extract rfl rfl) ?_
  refine x_val rfl rfl rfl (v_extract rfl rfl) ?_
  refine x_val rfl rfl rfl (v_assign rfl) ?_
  refine x_val rfl rfl rfl (v_assign rfl) ?_
  refine x_val rfl rfl rfl (v_assign rfl) ?_
  refine x_end ?_
  refine t_norm ?_
  refine w_seq ?_
  refine rg_text ?_
  refine x_val rfl rfl rfl (v_move rfl) ?_
  refine x_val rfl rfl rfl (v_move rfl) ?_
  refine x_val rfl rfl rfl (v_move rfl) ?_
  refine x_val rfl rfl rfl (v_nilCheck rfl) ?_
  refine x_val rfl rfl rfl (v_fieldAddr (off' := 0) Tryz.underlying133 rfl sz9 (by decide) rfl rfl) ?_
  refine x_val rfl rfl rfl (v_load Tryz.underlying9 rfl rfl (at_ownL (vs := (Value.string left :: Value.int .i64 0 :: rest)) (.head _) rfl)) ?_
  refine x_val rfl rfl rfl (v_move rfl) ?_
  refine x_val rfl rfl rfl (v_cut_from (i := (rnL (bl left)).2.1) Tryz.underlying9 rfl rfl (by omega)) ?_
  refine x_val rfl rfl rfl (v_move rfl) ?_
  refine x_val rfl rfl rfl (v_nilCheck rfl) ?_
  refine x_val rfl rfl rfl (v_fieldAddr (off' := 0) Tryz.underlying133 rfl sz9 (by decide) rfl rfl) ?_
  refine x_store (cs := (Value.string left :: Value.int .i64 0 :: rest)) (off := 0) (e := te) (l2 := l2) [] rfl rfl rfl rfl sz9 rfl (by simp) ?_
  refine x_val rfl rfl rfl (v_nilCheck rfl) ?_
  refine x_val rfl rfl rfl (v_fieldAddr (off' := 1) Tryz.underlying133 rfl sz36 (by decide) rfl rfl) ?_
  refine x_store (cs := (Value.string (inN left).2.1 :: Value.int .i64 0 :: rest)) (off := 1) (e := te) (l2 := l2) [] rfl rfl rfl rfl sz36 rfl (by simp) ?_
  refine x_end ?_
  refine t_norm ?_
  refine w_seq ?_
  refine rg_text ?_
  refine x_val rfl rfl rfl (v_move rfl) ?_
  refine x_val rfl rfl rfl (v_assign rfl) ?_
  refine x_end ?_
  refine t_norm ?_
  refine w_ret ?_
  exact ret1 rfl rfl (fun w' hm => ⟨rfl, hm.less (List.Sublist.refl _) (fun s hs => by repeat (first | exact hs | apply List.mem_cons_of_mem))⟩)
theorem ap9 : (Tryz.prog.info? 9).map (fun j => (j.zero, j.size, j.bytes)) = some (some (.string ⟨#[]⟩), 1, 16) := by kernel_rfl
set_option maxHeartbeats 1000000 in
set_option maxRecDepth 100000 in
theorem c_next {w : World} {l2 : List (Nat × Obj)} {ro : List Snap} {bq : Nat} {R : RowS} (left : ByteArray) (out : List ByteArray) (hm : Mem w ((bq, Obj.cells ([Value.string left, Value.int .i64 0, rowV R out.length]).toArray 135 (0, 0)) :: (rowO 9 R ++ l2)) ro) (hR : rowOK 1 R out.length (out.map Value.string)) (hs : left.size ≤ 2000000) (hol : out.length ≤ 2000000) :
  Calls Tryz.prog 86 #[.pointer (some ⟨bq, 0, none⟩)] w fun e w' => e = .returned (.tuple #[]) ∧ ∃ R', rowOK 1 R' (nxQ left out).2.2.length ((nxQ left out).2.2.map Value.string) ∧ Mem w' ((bq, Obj.cells ([Value.string (nxQ left out).1, Value.int .i64 (nxQ left out).2.1, rowV R' (nxQ left out).2.2.length]).toArray 135 (0, 0)) :: (rowO 9 R' ++ l2)) ro := by
 refine enter_in hm (vs := [.pointer (some ⟨bq, 0, none⟩)]) Tryz.func86 rfl Tryz.ntmps86 rfl ?_
 refine w_seq ?_
 refine rg_text ?_
 refine x_val rfl rfl rfl (v_move rfl) ?_
 refine x_val rfl rfl rfl (v_nilCheck rfl) ?_
 refine x_val rfl rfl rfl (v_fieldAddr (off' := 0) Tryz.underlying135 rfl sz133 (by decide) rfl rfl) ?_
 refine x_turnf (τ := Unit) (v := Value.int .u64 ((inN left).1 : Nat)) (fun _ => True) (fun _ => (bq, Obj.cells ([Value.string (inN left).2.1, Value.int .i64 (inN left).2.2, rowV R out.length]).toArray 135 (0, 0)) :: (rowO 9 R ++ l2)) rfl rfl Tryz.func85 (by kernel_rfl) rfl (fun w1 hw1 => (c_in (te := 135) (rest := [rowV R out.length]) left hw1 hs).mono fun e w2 ⟨h1, h2⟩ => ⟨h1, (), trivial, h2⟩) ?_
 intro _ _
 have hle := in_le left
 obtain ⟨e1, he1⟩ : ∃ e1, (inN left).2.2 = e1 := ⟨_, rfl⟩
 obtain ⟨l1, hl1⟩ : ∃ l1, (inN left).2.1 = l1 := ⟨_, rfl⟩
 obtain ⟨nn, hnn⟩ : ∃ nn, (inN left).1 = nn := ⟨_, rfl⟩
 rw [hl1, hnn] at hle
 rw [he1, hl1, hnn]
 refine x_val rfl rfl rfl (v_assign rfl) ?_
 refine x_end ?_
 refine t_norm ?_
 refine w_block ?_
 refine w_seq ?_
 refine rg_text ?_
 refine x_val rfl rfl rfl (v_move rfl) ?_
 refine x_val rfl rfl rfl (v_nilCheck rfl) ?_
 refine x_val rfl rfl rfl (v_fieldAddr (off' := 0) Tryz.underlying135 rfl sz133 (by decide) rfl rfl) ?_
 refine x_val rfl rfl rfl (v_fieldAddr (off' := 1) Tryz.underlying133 rfl sz36 (by decide) rfl rfl) ?_
 refine x_val rfl rfl rfl (v_load Tryz.underlying36 rfl rfl (at_ownL (vs := [Value.string l1, Value.int .i64 e1, rowV R out.length]) (by repeat (first | exact List.Mem.head _ | apply List.Mem.tail)) rfl)) ?_
 refine x_bool rfl rfl rfl (v_neq rfl rfl) ?_
 intro b40 hb40
 refine x_val rfl rfl rfl (v_assign rfl) ?_
 refine x_end ?_
 refine t_norm ?_
 refine w_cond rfl (fun hc34 => ?_) (fun hc34 => ?_)
 ·have hne : e1 ≠ 0 := by rw [hb40] at hc34; exact of_decide_eq_true hc34
  have hN : nxQ left out = (l1, e1, out) := by unfold nxQ; rw [he1, hl1, if_pos hne]
  refine w_skip ?_
  refine b_norm ?_
  exact ret0 rfl (fun w' hm => ⟨rfl, R, by rw [hN]; exact hR, by rw [hN]; exact hm⟩)
 ·obtain rfl : e1 = 0 := by rw [hb40] at hc34; have := of_decide_eq_false hc34; omega
  refine w_seq ?_
  refine rg_text ?_
  refine x_val rfl rfl rfl (v_move rfl) ?_
  refine x_val rfl rfl rfl (v_move rfl) ?_
  refine x_val rfl rfl rfl (v_nilCheck rfl) ?_
  refine x_val rfl rfl rfl (v_fieldAddr (off' := 0) Tryz.underlying135 rfl sz133 (by decide) rfl rfl) ?_
  refine x_val rfl rfl rfl (v_fieldAddr (off' := 0) Tryz.underlying133 rfl sz9 (by decide) rfl rfl) ?_
  refine x_val rfl rfl rfl (v_load Tryz.underlying9 rfl rfl (at_ownL (vs := [Value.string l1, Value.int .i64 0, rowV R out.length]) (by repeat (first | exact List.Mem.head _ | apply List.Mem.tail)) rfl)) ?_
  refine x_val rfl rfl rfl (v_len_str Tryz.underlying9 rfl) ?_
  refine x_val rfl rfl rfl (v_convE (c := ((l1.size : Nat) : Int)) Tryz.underlying3 Tryz.underlying107 rfl (u64_wrap (by omega))) ?_
  refine x_bool rfl rfl rfl (v_gtr rfl rfl) ?_
  intro b50 hb50
  refine x_val rfl rfl rfl (v_assign rfl) ?_
  refine x_end ?_
  refine t_norm ?_
  refine w_cond rfl (fun hc41 => ?_) (fun hc41 => ?_)
  ·have hgt : l1.size < nn := by rw [hb50] at hc41; have := of_decide_eq_true hc41; omega
   have hN : nxQ left out = (l1, 10, out) := by unfold nxQ; rw [he1, hl1, hnn, if_neg (fun h => h rfl), if_pos hgt]
   refine rg_text ?_
   refine x_val rfl rfl rfl (v_move rfl) ?_
   refine x_val rfl rfl rfl (v_nilCheck rfl) ?_
   refine x_val rfl rfl rfl (v_fieldAddr (off' := 0) Tryz.underlying135 rfl sz133 (by decide) rfl rfl) ?_
   refine x_val rfl rfl rfl (v_fieldAddr (off' := 1) Tryz.underlying133 rfl sz36 (by decide) rfl rfl) ?_
   refine x_store (cs := [Value.string l1, Value.int .i64 0, rowV R out.length]) (off := 1) (e := 135) (l2 := rowO 9 R ++ l2) [] rfl rfl rfl rfl sz36 rfl (by show 2 ≤ 3; decide) ?_
   refine x_end ?_
   refine b_norm ?_
   exact ret0 rfl (fun w' hm => ⟨rfl, R, by rw [hN]; exact hR, by rw [hN]; exact hm⟩)
  ·have hgt : nn ≤ l1.size := by rw [hb50] at hc41; have := of_decide_eq_false hc41; omega
   have hN : nxQ left out = (l1.extract nn l1.size, 0, out ++ [l1.extract 0 nn]) := by unfold nxQ; rw [he1, hl1, hnn, if_neg (fun h => h rfl), if_neg (by omega)]
   have hoz : (l1.extract 0 nn).size ≤ 2000000 := by rw [ByteArray.size_extract]; omega
   refine w_seq ?_
   refine rg_inv ([(bq, Obj.cells ([Value.string l1, Value.int .i64 0, rowV R out.length]).toArray 135 (0, 0))]) 16 (.flt 0 (.flt 1 (.flt 2 (.flt 3 (.flt 4 (.flt 5 (.flt 6 (.flt 7 (.flt 8 (.flt 9 (.flt 10 (.flt 11 (.gr 12 (.gr 13 (.flt 14 (.flt 15 .done)) .nil) .nil))))))))))))) (by repeat (first | exact (List.nil_sublist _).cons_cons _ | apply List.Sublist.cons)) (by kernel_rfl) (by kernel_rfl) ?_
   refine j_val rfl rfl (v_move rfl) ?_
   refine j_val rfl rfl (v_move rfl) ?_
   refine j_val rfl rfl (v_nilCheck rfl) ?_
   refine j_val rfl rfl (v_fieldAddr (off' := 2) Tryz.underlying135 rfl sz55 (by decide) rfl rfl) ?_
   refine j_val rfl rfl (v_load Tryz.underlying55 rfl rfl (at_ownL (vs := [Value.string l1, Value.int .i64 0, rowV R out.length]) (by repeat (first | exact List.Mem.head _ | apply List.Mem.tail)) rfl)) ?_
   refine j_val rfl rfl (v_move rfl) ?_
   refine j_val rfl rfl (v_nilCheck rfl) ?_
   refine j_val rfl rfl (v_fieldAddr (off' := 0) Tryz.underlying135 rfl sz133 (by decide) rfl rfl) ?_
   refine j_val rfl rfl (v_fieldAddr (off' := 0) Tryz.underlying133 rfl sz9 (by decide) rfl rfl) ?_
   refine j_val rfl rfl (v_load Tryz.underlying9 rfl rfl (at_ownL (vs := [Value.string l1, Value.int .i64 0, rowV R out.length]) (by repeat (first | exact List.Mem.head _ | apply List.Mem.tail)) rfl)) ?_
   refine j_val rfl rfl (v_move rfl) ?_
   refine j_val rfl rfl (v_cut_to (j := nn) Tryz.underlying9 rfl rfl (by omega)) ?_
   refine j_gr ?_ j_nil
   refine x_buildSliceL (cs := [Value.string (l1.extract 0 nn)]) rfl rfl rfl Tryz.underlying55 sz9 zr9 rfl rfl rfl ?_
   intro p19
   refine x_end ?_
   refine j_end (by repeat (first | exact (List.nil_sublist _).cons_cons _ | apply List.Sublist.cons)) ?_
   refine j_gr ?_ j_nil
   refine x_append (e := 9) [(p19, Obj.cells [Value.string (l1.extract 0 nn)].toArray 9), (bq, Obj.cells ([Value.string l1, Value.int .i64 0, rowV R out.length]).toArray 135 (0, 0))] (l2 := l2) R (len := out.length) (xs := out.map Value.string) rfl rfl rfl rfl (by simp [List.append_assoc]) hR Tryz.underlying55 ap9 rfl rfl (m := 1) (news := [Value.string (l1.extract 0 nn)]) (fun i hi => at_ownL (vs := [Value.string (l1.extract 0 nn)]) (.head _) (by rw [Nat.zero_add]; exact List.getElem?_eq_getElem hi)) rfl (by simp only [maxLen]; omega) (by omega) ?_
   intro R' hR'
   refine x_end ?_
   refine j_end (by repeat (first | exact (List.nil_sublist _).cons_cons _ | apply List.Sublist.cons)) ?_
   refine j_val rfl rfl (v_nilCheck rfl) ?_
   refine j_val rfl rfl (v_fieldAddr (off' := 2) Tryz.underlying135 rfl sz55 (by decide) rfl rfl) ?_
   refine j_done ?_
   refine x_store (cs := [Value.string l1, Value.int .i64 0, rowV R out.length]) (off := 2) (e := 135) (l2 := rowO 9 R' ++ l2) [(p19, Obj.cells [Value.string (l1.extract 0 nn)].toArray 9)] rfl rfl rfl (by simp [List.append_assoc]) sz55 rfl (by show 3 ≤ 3; decide) ?_
   refine x_end ?_
   refine t_norm ?_
   refine rg_text ?_
   refine x_val rfl rfl rfl (v_move rfl) ?_
   refine x_val rfl rfl rfl (v_move rfl) ?_
   refine x_val rfl rfl rfl (v_nilCheck rfl) ?_
   refine x_val rfl rfl rfl (v_fieldAddr (off' := 0) Tryz.underlying135 rfl sz133 (by decide) rfl rfl) ?_
   refine x_val rfl rfl rfl (v_fieldAddr (off' := 0) Tryz.underlying133 rfl sz9 (by decide) rfl rfl) ?_
   refine x_val rfl rfl rfl (v_load Tryz.underlying9 rfl rfl (at_ownL (vs := [Value.string l1, Value.int .i64 0, rowV R' (out.length + 1)]) (by repeat (first | exact List.Mem.head _ | apply List.Mem.tail)) rfl)) ?_
   refine x_val rfl rfl rfl (v_move rfl) ?_
   refine x_val rfl rfl rfl (v_cut_from (i := nn) Tryz.underlying9 rfl rfl (by omega)) ?_
   refine x_val rfl rfl rfl (v_nilCheck rfl) ?_
   refine x_val rfl rfl rfl (v_fieldAddr (off' := 0) Tryz.underlying135 rfl sz133 (by decide) rfl rfl) ?_
   refine x_val rfl rfl rfl (v_fieldAddr (off' := 0) Tryz.underlying133 rfl sz9 (by decide) rfl rfl) ?_
   refine x_store (cs := [Value.string l1, Value.int .i64 0, rowV R' (out.length + 1)]) (off := 0) (e := 135) (l2 := rowO 9 R' ++ l2) [(p19, Obj.cells [Value.string (l1.extract 0 nn)].toArray 9)] rfl rfl rfl rfl sz9 rfl (by show 1 ≤ 3; decide) ?_
   refine x_end ?_
   refine b_norm ?_
   refine ret0 rfl (fun w' hm => ⟨rfl, R', ?_, ?_⟩)
   ·rw [hN]; dsimp only; rw [List.length_append, List.map_append]; exact hR'
   ·rw [hN]; dsimp only; rw [List.length_append]; exact hm.less (List.sublist_cons_self _ _) (fun _ h => h)

end Go.Proofs.YtaniaihoodgmpaaGreatDoor

namespace Go.Proofs.YtaniaihoodgmpaaGreatDoor
open Go.RowKit Go.PK
set_option linter.unusedVariables false
set_option linter.unusedSimpArgs false
set_option maxHeartbeats 1000000 in
set_option maxRecDepth 100000 in
theorem c_Unp (s : ByteArray) (w : World) (hs : s.size ≤ 2000000) :
  Calls Tryz.prog 56 #[.string s] w fun e w' => ∃ v, e = .returned (.tuple #[v, Value.int .i64 (unpQ s).2]) ∧ Later w w' ∧ sliceRd tyStr (fun b => w.heap.size ≤ b) w' v (unpQ s).1 := by
 refine enter (vs := [.string s]) Tryz.func56 rfl Tryz.ntmps56 rfl ?_
 refine w_seq ?_
 refine rg_text ?_
 refine x_val rfl rfl rfl (v_assign rfl) ?_
 refine x_val rfl rfl rfl (v_assign rfl) ?_
 refine x_end ?_
 refine t_norm ?_
 refine w_seq ?_
 refine rg_text ?_
 refine x_val rfl rfl rfl (v_move rfl) ?_
 refine x_val (v := Value.agg #[.string s, Value.int .i64 0]) rfl rfl rfl (v_buildL (places := [(0, 1), (1, 1)]) Tryz.underlying133 zr133 (by kernel_rfl) rfl rfl) ?_
 refine x_val (v := Value.agg #[.string s, Value.int .i64 0, .slice none 0 0]) rfl rfl rfl (v_buildL (places := [(0, 2), (2, 1)]) Tryz.underlying135 zr135 (by kernel_rfl) rfl rfl) ?_
 refine x_box rfl rfl rfl rfl ?_
 intro p10
 refine x_val rfl rfl rfl (v_assign rfl) ?_
 refine x_end ?_
 refine t_norm ?_
 refine w_seq ?_
 refine rg_text ?_
 refine x_val rfl rfl rfl (v_move rfl) ?_
 refine x_val rfl rfl rfl (v_nilCheck rfl) ?_
 refine x_val rfl rfl rfl (v_fieldAddr (off' := 0) Tryz.underlying135 rfl sz133 (by decide) rfl rfl) ?_
 refine x_turnf (τ := Unit) (v := Value.int .u64 ((inN s).1 : Nat)) (fun _ => True) (fun _ => [(p10, Obj.cells ([Value.string (inN s).2.1, Value.int .i64 (inN s).2.2, rowV none 0]).toArray 135 (0, 0))]) rfl rfl Tryz.func85 (by kernel_rfl) rfl (fun w1 hw1 => (c_in (te := 135) (rest := [Value.slice none 0 0]) (l2 := []) s (hw1.to rfl) hs).mono fun e w2 ⟨h1, h2⟩ => ⟨h1, (), trivial, h2⟩) ?_
 intro _ _
 have hl0 := (in_le s).1
 have hmy := (in_le s).2
 obtain ⟨RES, hRES⟩ : ∃ q, (unS (inN s).1 (inN s).2.1 (inN s).2.2 []) = q := ⟨_, rfl⟩
 have hup : unpQ s = finU RES := by rw [unp_eq, hRES]
 obtain ⟨e0, he0⟩ : ∃ e0, (inN s).2.2 = e0 := ⟨_, rfl⟩
 obtain ⟨l0, hl0e⟩ : ∃ l0, (inN s).2.1 = l0 := ⟨_, rfl⟩
 obtain ⟨many, hme⟩ : ∃ m, (inN s).1 = m := ⟨_, rfl⟩
 rw [hl0e] at hl0
 rw [hme] at hmy
 rw [hme, hl0e, he0] at hRES
 rw [hme, hl0e, he0]
 refine x_val rfl rfl rfl (v_assign rfl) ?_
 refine x_end ?_
 refine t_norm ?_
 refine w_seq ?_
 refine w_seq ?_
 refine rg_text ?_
 refine x_val rfl rfl rfl (v_assign rfl) ?_
 refine x_end ?_
 refine t_norm ?_
 refine w_block ?_
 refine w_loop (σ := Nat × ByteArray × Int × List ByteArray × RowS) (fun x => x.1 ≤ many ∧ x.2.1.size + x.2.2.2.1.length ≤ s.size ∧ (∀ y ∈ x.2.2.2.1, y.size ≤ s.size) ∧ rowOK 1 x.2.2.2.2 x.2.2.2.1.length (x.2.2.2.1.map Value.string) ∧ unS (many - x.1) x.2.1 x.2.2.1 x.2.2.2.1 = RES) (fun x => [(0, Value.string s), (4, Value.pointer (some ⟨p10, 0, none⟩)), (5, Value.int .u64 (many : Nat)), (6, Value.int .u64 (x.1 : Nat))]) (fun x => (p10, Obj.cells ([Value.string x.2.1, Value.int .i64 x.2.2.1, rowV x.2.2.2.2 x.2.2.2.1.length]).toArray 135 (0, 0)) :: rowO 9 x.2.2.2.2) (fun x => [(w, fun _ => True)]) (fun x => if x.2.2.1 = 0 then x.2.1.size + 1 else 0) ((0, l0, e0, [], none)) (⟨Nat.zero_le _, (by dsimp only; simpa using hl0), (fun y hy => by cases hy), rowOK_nil, hRES⟩) (l_start (by repeat (first | exact Sub.nil | refine Sub.cons rfl ?_)) (fun _ h => h)) ?_
 rintro ⟨i, left, e, out, R⟩ ⟨him, hsz, hal, hR, hU⟩
 refine w_state ([(0, Value.string s), (4, Value.pointer (some ⟨p10, 0, none⟩)), (5, Value.int .u64 (many : Nat)), (6, Value.int .u64 (i : Nat))]) ((p10, Obj.cells ([Value.string left, Value.int .i64 e, rowV R out.length]).toArray 135 (0, 0)) :: rowO 9 R) ([(w, fun _ => True)]) ?_
 dsimp only at him hsz hal hR hU
 refine w_seq ?_
 refine w_seq ?_
 refine rg_text ?_
 refine x_val rfl rfl rfl (v_move rfl) ?_
 refine x_val rfl rfl rfl (v_move rfl) ?_
 refine x_bool rfl rfl rfl (v_lss rfl rfl) ?_
 intro b17 hb17
 refine x_val rfl rfl rfl (v_move rfl) ?_
 refine x_if [] rfl rfl rfl rfl rfl (fun hg => by obtain ⟨hg0, _⟩ := hg; subst hg0; (try simp only [Qy1, Qy2, gvl_nil, gvl_t, gvl_f]); exact v_move rfl) ?_
 refine x_if [] rfl rfl rfl rfl rfl (fun hg => by obtain ⟨hg0, _⟩ := hg; subst hg0; (try simp only [Qy1, Qy2, gvl_nil, gvl_t, gvl_f]); exact v_nilCheck rfl) ?_
 refine x_if [] rfl rfl rfl rfl rfl (fun hg => by obtain ⟨hg0, _⟩ := hg; subst hg0; (try simp only [Qy1, Qy2, gvl_nil, gvl_t, gvl_f]); exact v_fieldAddr (off' := 0) Tryz.underlying135 rfl sz133 (by decide) rfl rfl) ?_
 refine x_if [] rfl rfl rfl rfl rfl (fun hg => by obtain ⟨hg0, _⟩ := hg; subst hg0; (try simp only [Qy1, Qy2, gvl_nil, gvl_t, gvl_f]); exact v_fieldAddr (off' := 1) Tryz.underlying133 rfl sz36 (by decide) rfl rfl) ?_
 refine x_if [] rfl rfl rfl rfl rfl (fun hg => by obtain ⟨hg0, _⟩ := hg; subst hg0; (try simp only [Qy1, Qy2, gvl_nil, gvl_t, gvl_f]); exact v_load Tryz.underlying36 rfl rfl (at_ownL (vs := [Value.string left, Value.int .i64 e, rowV R out.length]) (by repeat (first | exact List.Mem.head _ | apply List.Mem.tail)) rfl)) ?_
 refine x_ifb [] rfl rfl rfl rfl rfl (fun hg => by obtain ⟨hg0, _⟩ := hg; subst hg0; (try simp only [Qy1, Qy2, gvl_nil, gvl_t, gvl_f]); exact v_eql rfl rfl) ?_
 intro b24 hb24
 refine x_bool rfl rfl rfl (v_and rfl rfl) ?_
 intro b25 hb25
 refine x_end ?_
 refine t_norm ?_
 refine w_cond rfl (fun hc25 => ?_) (fun hc25 => ?_)
 ·simp only [hb25, hb24, hb17, Qz1, Qz2, Qz3, Qz4, Qz5, Qz6, Qz7, Qz8, Qz9, Qz0] at hc25
  obtain ⟨hil, hez⟩ : i < many ∧ e = 0 := ⟨by have := hc25.1; omega, hc25.2⟩
  subst hez
  rw [unS_step hil] at hU
  obtain hnx := nx_case left out
  refine w_skip ?_
  refine t_norm ?_
  refine w_seq ?_
  refine w_block ?_
  refine rg_text ?_
  refine x_val rfl rfl rfl (v_move rfl) ?_
  refine x_turnf (τ := RowS) (v := .tuple #[]) (fun R' => rowOK 1 R' (nxQ left out).2.2.length ((nxQ left out).2.2.map Value.string)) (fun R' => (p10, Obj.cells ([Value.string (nxQ left out).1, Value.int .i64 (nxQ left out).2.1, rowV R' (nxQ left out).2.2.length]).toArray 135 (0, 0)) :: (rowO 9 R' ++ [])) rfl rfl Tryz.func86 (by kernel_rfl) rfl (fun w1 hw1 => c_next (l2 := []) left out (hw1.to (by simp)) hR (by omega) (by omega)) ?_
  intro R' hR'
  refine x_end ?_
  refine b_norm ?_
  refine t_norm ?_
  refine rg_text ?_
  refine x_val rfl rfl rfl (v_move rfl) ?_
  refine x_val rfl rfl rfl (v_addE (c := ((i + 1 : Nat) : Int)) rfl rfl (by rw [u64_wrap (by omega)]; omega)) ?_
  refine x_val rfl rfl rfl (v_assign rfl) ?_
  refine x_end ?_
  refine l_norm (x := (i, left, 0, out, R)) (μ := fun x : Nat × ByteArray × Int × List ByteArray × RowS => if x.2.2.1 = 0 then x.2.1.size + 1 else 0) (i + 1, (nxQ left out).1, (nxQ left out).2.1, (nxQ left out).2.2, R') ⟨hil, ?_, nx_sz (by omega) hal, hR', hU⟩ ?_ (by repeat (first | exact Sub.nil | refine Sub.cons rfl ?_)) (fun _ h => h.to (by simp))
  ·dsimp only; rcases hnx with ⟨c1, c2, c3, c4, c5⟩ | ⟨c1, c2, c3⟩; (· omega); rw [c2]; omega
  ·dsimp only; rcases hnx with ⟨c1, c2, c3, c4, c5⟩ | ⟨c1, c2, c3⟩; (· rw [if_pos c1, if_pos rfl]; omega); rw [if_neg c1, if_pos rfl]; omega
 ·simp only [hb25, hb24, hb17, Qz1, Qz2, Qz3, Qz4, Qz5, Qz6, Qz7, Qz8, Qz9, Qz0] at hc25
  have hE := unS_end (m := many) (i := i) (l := left) (e := e) (out := out) (by rcases hc25 with h | h; (· exact .inl (by omega)); exact .inr h)
  rw [hU] at hE
  rw [hE] at hup
  refine w_exit ?_
  refine t_exit ?_
  refine t_exit ?_
  refine b_hit ?_
  refine t_norm ?_
  refine w_seq ?_
  refine w_seq ?_
  refine rg_text ?_
  refine x_val rfl rfl rfl (v_move rfl) ?_
  refine x_val rfl rfl rfl (v_nilCheck rfl) ?_
  refine x_val rfl rfl rfl (v_fieldAddr (off' := 0) Tryz.underlying135 rfl sz133 (by decide) rfl rfl) ?_
  refine x_val rfl rfl rfl (v_fieldAddr (off' := 1) Tryz.underlying133 rfl sz36 (by decide) rfl rfl) ?_
  refine x_val rfl rfl rfl (v_load Tryz.underlying36 rfl rfl (at_ownL (vs := [Value.string left, Value.int .i64 e, rowV R out.length]) (by repeat (first | exact List.Mem.head _ | apply List.Mem.tail)) rfl)) ?_
  refine x_bool rfl rfl rfl (v_eql rfl rfl) ?_
  intro b35 hb35
  refine x_val rfl rfl rfl (v_move rfl) ?_
  refine x_if [] rfl rfl rfl rfl rfl (fun hg => by obtain ⟨hg0, _⟩ := hg; subst hg0; (try simp only [Qy1, Qy2, gvl_nil, gvl_t, gvl_f]); exact v_move rfl) ?_
  refine x_if [] rfl rfl rfl rfl rfl (fun hg => by obtain ⟨hg0, _⟩ := hg; subst hg0; (try simp only [Qy1, Qy2, gvl_nil, gvl_t, gvl_f]); exact v_nilCheck rfl) ?_
  refine x_if [] rfl rfl rfl rfl rfl (fun hg => by obtain ⟨hg0, _⟩ := hg; subst hg0; (try simp only [Qy1, Qy2, gvl_nil, gvl_t, gvl_f]); exact v_fieldAddr (off' := 0) Tryz.underlying135 rfl sz133 (by decide) rfl rfl) ?_
  refine x_if [] rfl rfl rfl rfl rfl (fun hg => by obtain ⟨hg0, _⟩ := hg; subst hg0; (try simp only [Qy1, Qy2, gvl_nil, gvl_t, gvl_f]); exact v_fieldAddr (off' := 0) Tryz.underlying133 rfl sz9 (by decide) rfl rfl) ?_
  refine x_if [] rfl rfl rfl rfl rfl (fun hg => by obtain ⟨hg0, _⟩ := hg; subst hg0; (try simp only [Qy1, Qy2, gvl_nil, gvl_t, gvl_f]); exact v_load Tryz.underlying9 rfl rfl (at_ownL (vs := [Value.string left, Value.int .i64 e, rowV R out.length]) (by repeat (first | exact List.Mem.head _ | apply List.Mem.tail)) rfl)) ?_
  refine x_ifb [] rfl rfl rfl rfl rfl (fun hg => by obtain ⟨hg0, _⟩ := hg; subst hg0; (try simp only [Qy1, Qy2, gvl_nil, gvl_t, gvl_f]); exact v_sneq rfl rfl) ?_
  intro b42 hb42
  refine x_bool rfl rfl rfl (v_and rfl rfl) ?_
  intro b43 hb43
  refine x_end ?_
  refine t_norm ?_
  refine w_cond rfl (fun hc43 => ?_) (fun hc43 => ?_)
  ·simp only [hb43, hb42, hb35, Qz1, Qz2, Qz3, Qz4, Qz5, Qz6, Qz7, Qz8, Qz9, Qz0] at hc43
   obtain ⟨hez, hln⟩ := hc43
   subst hez
   rw [fin_more hln] at hup
   have hF := hup
   refine rg_text ?_
   refine x_val rfl rfl rfl (v_move rfl) ?_
   refine x_val rfl rfl rfl (v_nilCheck rfl) ?_
   refine x_val rfl rfl rfl (v_fieldAddr (off' := 0) Tryz.underlying135 rfl sz133 (by decide) rfl rfl) ?_
   refine x_val rfl rfl rfl (v_fieldAddr (off' := 1) Tryz.underlying133 rfl sz36 (by decide) rfl rfl) ?_
   refine x_store (cs := [Value.string left, Value.int .i64 0, rowV R out.length]) (off := 1) (e := 135) (l2 := rowO 9 R) [] rfl rfl rfl rfl sz36 rfl (by show 2 ≤ 3; decide) ?_
   refine x_end ?_
   refine t_norm ?_
   refine w_seq ?_
   refine w_seq ?_
   refine rg_text ?_
   refine x_val rfl rfl rfl (v_move rfl) ?_
   refine x_val rfl rfl rfl (v_nilCheck rfl) ?_
   refine x_val rfl rfl rfl (v_fieldAddr (off' := 0) Tryz.underlying135 rfl sz133 (by decide) rfl rfl) ?_
   refine x_val rfl rfl rfl (v_fieldAddr (off' := 1) Tryz.underlying133 rfl sz36 (by decide) rfl rfl) ?_
   refine x_val rfl rfl rfl (v_load Tryz.underlying36 rfl rfl (at_ownL (vs := [Value.string left, Value.int .i64 11, rowV R out.length]) (by repeat (first | exact List.Mem.head _ | apply List.Mem.tail)) rfl)) ?_
   refine x_bool rfl rfl rfl (v_neq rfl rfl) ?_
   intro b53 hb53
   refine x_end ?_
   refine t_norm ?_
   refine w_cond rfl (fun hc53 => ?_) (fun hc53 => ?_)
   ·skip
    refine w_seq ?_
    refine rg_draw 7 [(true, 0), (true, 1), (true, 2), (true, 3), (true, 4), (true, 5), (true, 6)] (by kernel_rfl) (by kernel_rfl) ?_
    refine x_val rfl rfl rfl (v_move rfl) ?_
    refine x_val rfl rfl rfl (v_nilCheck rfl) ?_
    refine x_val rfl rfl rfl (v_fieldAddr (off' := 0) Tryz.underlying135 rfl sz133 (by decide) rfl rfl) ?_
    refine x_val rfl rfl rfl (v_fieldAddr (off' := 1) Tryz.underlying133 rfl sz36 (by decide) rfl rfl) ?_
    refine x_val rfl rfl rfl (v_load Tryz.underlying36 rfl rfl (at_ownL (vs := [Value.string left, Value.int .i64 11, rowV R out.length]) (by repeat (first | exact List.Mem.head _ | apply List.Mem.tail)) rfl)) ?_
    refine x_val rfl rfl rfl (v_assign rfl) ?_
    refine x_val rfl rfl rfl (v_assign rfl) ?_
    refine x_end ?_
    refine t_norm ?_
    refine w_ret ?_
    refine t_ret ?_
    refine ret2 rfl rfl rfl (fun w' hm => ⟨_, by rw [hF] <;> rfl, hm.base (by simp), by rw [hF]; exact ⟨none, 0, rfl, Nat.le_refl _, Nat.zero_le _, fun h => absurd h (Nat.lt_irrefl 0)⟩⟩)
   ·simp [hb53] at hc53
  ·simp only [hb43, hb42, hb35, Qz1, Qz2, Qz3, Qz4, Qz5, Qz6, Qz7, Qz8, Qz9, Qz0] at hc43
   refine w_skip ?_
   refine t_norm ?_
   refine w_seq ?_
   refine w_seq ?_
   refine rg_text ?_
   refine x_val rfl rfl rfl (v_move rfl) ?_
   refine x_val rfl rfl rfl (v_nilCheck rfl) ?_
   refine x_val rfl rfl rfl (v_fieldAddr (off' := 0) Tryz.underlying135 rfl sz133 (by decide) rfl rfl) ?_
   refine x_val rfl rfl rfl (v_fieldAddr (off' := 1) Tryz.underlying133 rfl sz36 (by decide) rfl rfl) ?_
   refine x_val rfl rfl rfl (v_load Tryz.underlying36 rfl rfl (at_ownL (vs := [Value.string left, Value.int .i64 e, rowV R out.length]) (by repeat (first | exact List.Mem.head _ | apply List.Mem.tail)) rfl)) ?_
   refine x_bool rfl rfl rfl (v_neq rfl rfl) ?_
   intro b53 hb53
   refine x_end ?_
   refine t_norm ?_
   refine w_cond rfl (fun hc53 => ?_) (fun hc53 => ?_)
   ·have hez : e ≠ 0 := by rw [hb53] at hc53; exact of_decide_eq_true hc53
    rw [fin_err hez] at hup
    have hF := hup
    refine w_seq ?_
    refine rg_draw 7 [(true, 0), (true, 1), (true, 2), (true, 3), (true, 4), (true, 5), (true, 6)] (by kernel_rfl) (by kernel_rfl) ?_
    refine x_val rfl rfl rfl (v_move rfl) ?_
    refine x_val rfl rfl rfl (v_nilCheck rfl) ?_
    refine x_val rfl rfl rfl (v_fieldAddr (off' := 0) Tryz.underlying135 rfl sz133 (by decide) rfl rfl) ?_
    refine x_val rfl rfl rfl (v_fieldAddr (off' := 1) Tryz.underlying133 rfl sz36 (by decide) rfl rfl) ?_
    refine x_val rfl rfl rfl (v_load Tryz.underlying36 rfl rfl (at_ownL (vs := [Value.string left, Value.int .i64 e, rowV R out.length]) (by repeat (first | exact List.Mem.head _ | apply List.Mem.tail)) rfl)) ?_
    refine x_val rfl rfl rfl (v_assign rfl) ?_
    refine x_val rfl rfl rfl (v_assign rfl) ?_
    refine x_end ?_
    refine t_norm ?_
    refine w_ret ?_
    refine t_ret ?_
    refine ret2 rfl rfl rfl (fun w' hm => ⟨_, by rw [hF] <;> rfl, hm.base (by simp), by rw [hF]; exact ⟨none, 0, rfl, Nat.le_refl _, Nat.zero_le _, fun h => absurd h (Nat.lt_irrefl 0)⟩⟩)
   ·obtain rfl : e = 0 := by rw [hb53] at hc53; have := of_decide_eq_false hc53; omega
    have hln : left = ⟨#[]⟩ := by rcases hc43 with h | h; (· exact absurd rfl h); exact h
    rw [hln, fin_ok] at hup
    have hF := hup
    refine w_skip ?_
    refine t_norm ?_
    refine w_seq ?_
    refine rg_text ?_
    refine x_val rfl rfl rfl (v_move rfl) ?_
    refine x_val rfl rfl rfl (v_nilCheck rfl) ?_
    refine x_val rfl rfl rfl (v_fieldAddr (off' := 2) Tryz.underlying135 rfl sz55 (by decide) rfl rfl) ?_
    refine x_val rfl rfl rfl (v_load Tryz.underlying55 rfl rfl (at_ownL (vs := [Value.string left, Value.int .i64 0, rowV R out.length]) (by repeat (first | exact List.Mem.head _ | apply List.Mem.tail)) rfl)) ?_
    refine x_val rfl rfl rfl (v_assign rfl) ?_
    refine x_val rfl rfl rfl (v_assign rfl) ?_
    refine x_end ?_
    refine t_norm ?_
    refine w_ret ?_
    refine ret2 rfl rfl rfl (fun w' hm => ⟨rowV R out.length, by rw [hF], hm.base (by simp), ?_⟩)
    rw [hF]
    exact row1_rd (T := tyStr) (e := 9) Value.string rfl hR rfl (fun D9 w9 y hy => ⟨rfl, by have := hal y hy; unfold okS; omega⟩) hm (fun q hq => by simp [hq]) (fun q hq => hm.newer (by simp) (by simp [hq]))

end Go.Proofs.YtaniaihoodgmpaaGreatDoor

namespace Go.Proofs.YtaniaihoodgmpaaGreatDoor
open Go.RowKit Go.PK
set_option linter.unusedVariables false
set_option linter.unusedSimpArgs false
attribute [local irreducible] WX
set_option maxHeartbeats 1000000 in
set_option maxRecDepth 100000 in
theorem c_RI (s : ByteArray) (w : World) (hs : s.size ≤ 2000000) :
  Calls Tryz.prog 57 #[.string s] w fun e w' => ∃ v, e = .returned (.tuple #[v, Value.int .i64 (riQ s).2]) ∧ Later w w' ∧ sliceRd tyI (fun b => w.heap.size ≤ b) w' v (riQ s).1 := by
 refine enter (vs := [.string s]) Tryz.func57 rfl Tryz.ntmps57 rfl ?_
 refine w_seq ?_
 refine rg_text ?_
 refine x_val rfl rfl rfl (v_assign rfl) ?_
 refine x_val rfl rfl rfl (v_assign rfl) ?_
 refine x_end ?_
 refine t_norm ?_
 refine w_seq ?_
 refine rg_text ?_
 refine x_val rfl rfl rfl (v_move rfl) ?_
 refine x_val (v := Value.agg #[.string s, Value.int .i64 0]) rfl rfl rfl (v_buildL (places := [(0, 1), (1, 1)]) Tryz.underlying133 zr133 (by kernel_rfl) rfl rfl) ?_
 refine x_box rfl rfl rfl rfl ?_
 intro p10
 refine x_val rfl rfl rfl (v_assign rfl) ?_
 refine x_end ?_
 refine t_norm ?_
 refine w_seq ?_
 refine rg_text ?_
 refine x_val rfl rfl rfl (v_move rfl) ?_
 refine x_turnf (τ := Unit) (v := Value.int .u64 ((inN s).1 : Nat)) (fun _ => True) (fun _ => [(p10, Obj.cells ([Value.string (inN s).2.1, Value.int .i64 (inN s).2.2]).toArray 133 (0, 0))]) rfl rfl Tryz.func85 (by kernel_rfl) rfl (fun w1 hw1 => (c_in (te := 133) (rest := []) (l2 := []) s (hw1.to rfl) hs).mono fun e w2 ⟨h1, h2⟩ => ⟨h1, (), trivial, h2⟩) ?_
 intro _ _
 have hl0 := (in_le s).1
 have hmy := (in_le s).2
 obtain ⟨RES, hRES⟩ : ∃ q, (riS (inN s).1 (inN s).2.1 (inN s).2.2 []) = q := ⟨_, rfl⟩
 have hup : riQ s = finU RES := by rw [riq_eq, hRES]
 obtain ⟨e0, he0⟩ : ∃ e0, (inN s).2.2 = e0 := ⟨_, rfl⟩
 obtain ⟨l0, hl0e⟩ : ∃ l0, (inN s).2.1 = l0 := ⟨_, rfl⟩
 obtain ⟨many, hme⟩ : ∃ m, (inN s).1 = m := ⟨_, rfl⟩
 rw [hl0e] at hl0
 rw [hme] at hmy
 rw [hme, hl0e, he0] at hRES
 rw [hme, hl0e, he0]
 refine x_val rfl rfl rfl (v_assign rfl) ?_
 refine x_end ?_
 refine t_norm ?_
 refine w_seq ?_
 refine rg_text ?_
 refine x_val rfl rfl rfl (v_assign rfl) ?_
 refine x_end ?_
 refine t_norm ?_
 refine w_seq ?_
 refine w_seq ?_
 refine rg_text ?_
 refine x_val rfl rfl rfl (v_assign rfl) ?_
 refine x_end ?_
 refine t_norm ?_
 refine w_block ?_
 refine w_loop (σ := Nat × ByteArray × Int × List Int × RowS) (fun x => x.1 ≤ many ∧ x.2.1.size + x.2.2.2.1.length ≤ s.size + (if x.2.2.1 = 0 then 0 else 1) ∧ (∀ d ∈ x.2.2.2.1, in64 d) ∧ rowOK 1 x.2.2.2.2 x.2.2.2.1.length (x.2.2.2.1.map (Value.int .i64)) ∧ riS (many - x.1) x.2.1 x.2.2.1 x.2.2.2.1 = RES) (fun x => [(0, Value.string s), (4, Value.pointer (some ⟨p10, 0, none⟩)), (5, Value.int .u64 (many : Nat)), (6, rowV x.2.2.2.2 x.2.2.2.1.length), (7, Value.int .u64 (x.1 : Nat))]) (fun x => (p10, Obj.cells ([Value.string x.2.1, Value.int .i64 x.2.2.1]).toArray 133 (0, 0)) :: rowO 3 x.2.2.2.2) (fun x => [(w, fun _ => True)]) (fun x => if x.2.2.1 = 0 then x.2.1.size + 1 else 0) ((0, l0, e0, [], none)) (⟨Nat.zero_le _, (by dsimp only; rw [List.length_nil]; omega), (fun y hy => by cases hy), rowOK_nil, hRES⟩) (l_start (by repeat (first | exact Sub.nil | refine Sub.cons rfl ?_)) (fun _ h => h)) ?_
 rintro ⟨i, left, e, out, R⟩ ⟨him, hsz, hal, hR, hU⟩
 refine w_state ([(0, Value.string s), (4, Value.pointer (some ⟨p10, 0, none⟩)), (5, Value.int .u64 (many : Nat)), (6, rowV R out.length), (7, Value.int .u64 (i : Nat))]) ((p10, Obj.cells ([Value.string left, Value.int .i64 e]).toArray 133 (0, 0)) :: rowO 3 R) ([(w, fun _ => True)]) ?_
 dsimp only at him hsz hal hR hU
 refine w_seq ?_
 refine w_seq ?_
 refine rg_text ?_
 refine x_val rfl rfl rfl (v_move rfl) ?_
 refine x_val rfl rfl rfl (v_move rfl) ?_
 refine x_bool rfl rfl rfl (v_lss rfl rfl) ?_
 intro b15 hb15
 refine x_val rfl rfl rfl (v_move rfl) ?_
 refine x_if [] rfl rfl rfl rfl rfl (fun hg => by obtain ⟨hg0, _⟩ := hg; subst hg0; (try simp only [Qy1, Qy2, gvl_nil, gvl_t, gvl_f]); exact v_move rfl) ?_
 refine x_if [] rfl rfl rfl rfl rfl (fun hg => by obtain ⟨hg0, _⟩ := hg; subst hg0; (try simp only [Qy1, Qy2, gvl_nil, gvl_t, gvl_f]); exact v_nilCheck rfl) ?_
 refine x_if [] rfl rfl rfl rfl rfl (fun hg => by obtain ⟨hg0, _⟩ := hg; subst hg0; (try simp only [Qy1, Qy2, gvl_nil, gvl_t, gvl_f]); exact v_fieldAddr (off' := 1) Tryz.underlying133 rfl sz36 (by decide) rfl rfl) ?_
 refine x_if [] rfl rfl rfl rfl rfl (fun hg => by obtain ⟨hg0, _⟩ := hg; subst hg0; (try simp only [Qy1, Qy2, gvl_nil, gvl_t, gvl_f]); exact v_load Tryz.underlying36 rfl rfl (at_ownL (vs := [Value.string left, Value.int .i64 e]) (by repeat (first | exact List.Mem.head _ | apply List.Mem.tail)) rfl)) ?_
 refine x_ifb [] rfl rfl rfl rfl rfl (fun hg => by obtain ⟨hg0, _⟩ := hg; subst hg0; (try simp only [Qy1, Qy2, gvl_nil, gvl_t, gvl_f]); exact v_eql rfl rfl) ?_
 intro b21 hb21
 refine x_bool rfl rfl rfl (v_and rfl rfl) ?_
 intro b22 hb22
 refine x_end ?_
 refine t_norm ?_
 refine w_cond rfl (fun hc22 => ?_) (fun hc22 => ?_)
 ·simp only [hb22, hb21, hb15, Qz1, Qz2, Qz3, Qz4, Qz5, Qz6, Qz7, Qz8, Qz9, Qz0] at hc22
  obtain ⟨hil, hez⟩ : i < many ∧ e = 0 := ⟨by have := hc22.1; omega, hc22.2⟩
  subst hez
  rw [riS_step hil] at hU
  have hle := in_le left
  rw [if_pos rfl] at hsz
  refine w_skip ?_
  refine t_norm ?_
  refine w_seq ?_
  refine w_block ?_
  refine rg_text ?_
  refine x_val rfl rfl rfl (v_move rfl) ?_
  refine x_val rfl rfl rfl (v_move rfl) ?_
  refine x_turnf (τ := Unit) (v := Value.int .u64 ((inN left).1 : Nat)) (fun _ => True) (fun _ => (p10, Obj.cells ([Value.string (inN left).2.1, Value.int .i64 (inN left).2.2]).toArray 133 (0, 0)) :: rowO 3 R) rfl rfl Tryz.func85 (by kernel_rfl) rfl (fun w1 hw1 => (c_in (te := 133) (rest := []) (l2 := rowO 3 R) left (hw1.to rfl) (by omega)).mono fun e w2 ⟨h1, h2⟩ => ⟨h1, (), trivial, h2⟩) ?_
  intro _ _
  refine x_callv (v := Value.int .i64 (uns (inN left).1)) rfl rfl rfl Tryz.func87 (by kernel_rfl) rfl (fun w1 hw1 => c_Uns _ w1 hle.2) ?_
  obtain ⟨d, hd⟩ : ∃ d, uns (inN left).1 = d := ⟨_, rfl⟩
  have hdin : in64 d := hd ▸ uns_in hle.2
  rw [hd] at hU ⊢
  refine x_buildSliceL (cs := [Value.int .i64 d]) rfl rfl rfl Tryz.underlying22 sz3 zr3 rfl rfl rfl ?_
  intro p29
  refine x_append (e := 3) [(p29, Obj.cells [Value.int .i64 d].toArray 3), (p10, Obj.cells ([Value.string (inN left).2.1, Value.int .i64 (inN left).2.2]).toArray 133 (0, 0))] (l2 := []) R (len := out.length) (xs := out.map (Value.int .i64)) rfl rfl rfl rfl (by simp) hR Tryz.underlying22 ap3 rfl rfl (m := 1) (news := [Value.int .i64 d]) (fun i hi => at_ownL (vs := [Value.int .i64 d]) (.head _) (by rw [Nat.zero_add]; exact List.getElem?_eq_getElem hi)) rfl (by simp only [maxLen]; omega) (by omega) ?_
  intro R' hR'
  have hR' : rowOK 1 R' (out ++ [d]).length ((out ++ [d]).map (Value.int .i64)) := by rw [List.length_append, List.map_append]; exact hR'
  refine x_val rfl rfl rfl (v_assign rfl) ?_
  refine x_end ?_
  refine b_norm ?_
  refine t_norm ?_
  refine rg_text ?_
  refine x_val rfl rfl rfl (v_move rfl) ?_
  refine x_val rfl rfl rfl (v_addE (c := ((i + 1 : Nat) : Int)) rfl rfl (by rw [u64_wrap (by omega)]; omega)) ?_
  refine x_val rfl rfl rfl (v_assign rfl) ?_
  refine x_end ?_
  refine l_norm (x := (i, left, 0, out, R)) (μ := fun x : Nat × ByteArray × Int × List Int × RowS => if x.2.2.1 = 0 then x.2.1.size + 1 else 0) (i + 1, (inN left).2.1, (inN left).2.2, out ++ [d], R') ⟨hil, ?_, fun y hy => by rcases List.mem_append.1 hy with h | h; (· exact hal y h); rw [List.mem_singleton.1 h]; exact hdin, hR', hU⟩ ?_ (by dsimp only; rw [List.length_append, List.length_singleton]; exact (by repeat (first | exact Sub.nil | refine Sub.cons rfl ?_))) (fun w1 h => h.less (own' := (p10, Obj.cells ([Value.string (inN left).2.1, Value.int .i64 (inN left).2.2]).toArray 133 (0, 0)) :: rowO 3 R') (by simp only [List.append_nil]; exact List.sublist_cons_self _ _) (fun _ h => h))
  ·dsimp only; rw [List.length_append, List.length_singleton]; by_cases h0 : (inN left).2.2 = 0; (· rw [if_pos h0]; have := (in_ok h0).2.1; omega); rw [if_neg h0]; omega
  ·dsimp only; rw [if_pos rfl]; by_cases h0 : (inN left).2.2 = 0; (· rw [if_pos h0]; have := (in_ok h0).2.1; omega); rw [if_neg h0]; omega
 ·simp only [hb22, hb21, hb15, Qz1, Qz2, Qz3, Qz4, Qz5, Qz6, Qz7, Qz8, Qz9, Qz0] at hc22
  have hE := riS_end (m := many) (i := i) (l := left) (e := e) (out := out) (by rcases hc22 with h | h; (· exact .inl (by omega)); exact .inr h)
  rw [hU] at hE
  rw [hE] at hup
  refine w_exit ?_
  refine t_exit ?_
  refine t_exit ?_
  refine b_hit ?_
  refine t_norm ?_
  refine w_seq ?_
  refine w_seq ?_
  refine rg_text ?_
  refine x_val rfl rfl rfl (v_move rfl) ?_
  refine x_val rfl rfl rfl (v_nilCheck rfl) ?_
  refine x_val rfl rfl rfl (v_fieldAddr (off' := 1) Tryz.underlying133 rfl sz36 (by decide) rfl rfl) ?_
  refine x_val rfl rfl rfl (v_load Tryz.underlying36 rfl rfl (at_ownL (vs := [Value.string left, Value.int .i64 e]) (by repeat (first | exact List.Mem.head _ | apply List.Mem.tail)) rfl)) ?_
  refine x_bool rfl rfl rfl (v_eql rfl rfl) ?_
  intro b35 hb35
  refine x_val rfl rfl rfl (v_move rfl) ?_
  refine x_if [] rfl rfl rfl rfl rfl (fun hg => by obtain ⟨hg0, _⟩ := hg; subst hg0; (try simp only [Qy1, Qy2, gvl_nil, gvl_t, gvl_f]); exact v_move rfl) ?_
  refine x_if [] rfl rfl rfl rfl rfl (fun hg => by obtain ⟨hg0, _⟩ := hg; subst hg0; (try simp only [Qy1, Qy2, gvl_nil, gvl_t, gvl_f]); exact v_nilCheck rfl) ?_
  refine x_if [] rfl rfl rfl rfl rfl (fun hg => by obtain ⟨hg0, _⟩ := hg; subst hg0; (try simp only [Qy1, Qy2, gvl_nil, gvl_t, gvl_f]); exact v_fieldAddr (off' := 0) Tryz.underlying133 rfl sz9 (by decide) rfl rfl) ?_
  refine x_if [] rfl rfl rfl rfl rfl (fun hg => by obtain ⟨hg0, _⟩ := hg; subst hg0; (try simp only [Qy1, Qy2, gvl_nil, gvl_t, gvl_f]); exact v_load Tryz.underlying9 rfl rfl (at_ownL (vs := [Value.string left, Value.int .i64 e]) (by repeat (first | exact List.Mem.head _ | apply List.Mem.tail)) rfl)) ?_
  refine x_ifb [] rfl rfl rfl rfl rfl (fun hg => by obtain ⟨hg0, _⟩ := hg; subst hg0; (try simp only [Qy1, Qy2, gvl_nil, gvl_t, gvl_f]); exact v_sneq rfl rfl) ?_
  intro b41 hb41
  refine x_bool rfl rfl rfl (v_and rfl rfl) ?_
  intro b42 hb42
  refine x_end ?_
  refine t_norm ?_
  refine w_cond rfl (fun hc42 => ?_) (fun hc42 => ?_)
  ·simp only [hb42, hb41, hb35, Qz1, Qz2, Qz3, Qz4, Qz5, Qz6, Qz7, Qz8, Qz9, Qz0] at hc42
   obtain ⟨hez, hln⟩ := hc42
   subst hez
   rw [fin_more hln] at hup
   have hF := hup
   refine rg_text ?_
   refine x_val rfl rfl rfl (v_move rfl) ?_
   refine x_val rfl rfl rfl (v_nilCheck rfl) ?_
   refine x_val rfl rfl rfl (v_fieldAddr (off' := 1) Tryz.underlying133 rfl sz36 (by decide) rfl rfl) ?_
   refine x_store (cs := [Value.string left, Value.int .i64 0]) (off := 1) (e := 133) (l2 := rowO 3 R) [] rfl rfl rfl rfl sz36 rfl (by show 2 ≤ 2; decide) ?_
   refine x_end ?_
   refine t_norm ?_
   refine w_seq ?_
   refine w_seq ?_
   refine rg_text ?_
   refine x_val rfl rfl rfl (v_move rfl) ?_
   refine x_val rfl rfl rfl (v_nilCheck rfl) ?_
   refine x_val rfl rfl rfl (v_fieldAddr (off' := 1) Tryz.underlying133 rfl sz36 (by decide) rfl rfl) ?_
   refine x_val rfl rfl rfl (v_load Tryz.underlying36 rfl rfl (at_ownL (vs := [Value.string left, Value.int .i64 11]) (by repeat (first | exact List.Mem.head _ | apply List.Mem.tail)) rfl)) ?_
   refine x_bool rfl rfl rfl (v_neq rfl rfl) ?_
   intro b50 hb50
   refine x_end ?_
   refine t_norm ?_
   refine w_cond rfl (fun hc50 => ?_) (fun hc50 => ?_)
   ·skip
    refine w_seq ?_
    refine rg_draw 6 [(true, 0), (true, 1), (true, 2), (true, 3), (true, 4), (true, 5)] (by kernel_rfl) (by kernel_rfl) ?_
    refine x_val rfl rfl rfl (v_move rfl) ?_
    refine x_val rfl rfl rfl (v_nilCheck rfl) ?_
    refine x_val rfl rfl rfl (v_fieldAddr (off' := 1) Tryz.underlying133 rfl sz36 (by decide) rfl rfl) ?_
    refine x_val rfl rfl rfl (v_load Tryz.underlying36 rfl rfl (at_ownL (vs := [Value.string left, Value.int .i64 11]) (by repeat (first | exact List.Mem.head _ | apply List.Mem.tail)) rfl)) ?_
    refine x_val rfl rfl rfl (v_assign rfl) ?_
    refine x_val rfl rfl rfl (v_assign rfl) ?_
    refine x_end ?_
    refine t_norm ?_
    refine w_ret ?_
    refine t_ret ?_
    refine ret2 rfl rfl rfl (fun w' hm => ⟨_, by rw [hF] <;> rfl, hm.base (by simp), by rw [hF]; exact ⟨none, 0, rfl, Nat.le_refl _, Nat.zero_le _, fun h => absurd h (Nat.lt_irrefl 0)⟩⟩)
   ·simp [hb50] at hc50
  ·simp only [hb42, hb41, hb35, Qz1, Qz2, Qz3, Qz4, Qz5, Qz6, Qz7, Qz8, Qz9, Qz0] at hc42
   refine w_skip ?_
   refine t_norm ?_
   refine w_seq ?_
   refine w_seq ?_
   refine rg_text ?_
   refine x_val rfl rfl rfl (v_move rfl) ?_
   refine x_val rfl rfl rfl (v_nilCheck rfl) ?_
   refine x_val rfl rfl rfl (v_fieldAddr (off' := 1) Tryz.underlying133 rfl sz36 (by decide) rfl rfl) ?_
   refine x_val rfl rfl rfl (v_load Tryz.underlying36 rfl rfl (at_ownL (vs := [Value.string left, Value.int .i64 e]) (by repeat (first | exact List.Mem.head _ | apply List.Mem.tail)) rfl)) ?_
   refine x_bool rfl rfl rfl (v_neq rfl rfl) ?_
   intro b50 hb50
   refine x_end ?_
   refine t_norm ?_
   refine w_cond rfl (fun hc50 => ?_) (fun hc50 => ?_)
   ·have hez : e ≠ 0 := by rw [hb50] at hc50; exact of_decide_eq_true hc50
    rw [fin_err hez] at hup
    have hF := hup
    refine w_seq ?_
    refine rg_draw 6 [(true, 0), (true, 1), (true, 2), (true, 3), (true, 4), (true, 5)] (by kernel_rfl) (by kernel_rfl) ?_
    refine x_val rfl rfl rfl (v_move rfl) ?_
    refine x_val rfl rfl rfl (v_nilCheck rfl) ?_
    refine x_val rfl rfl rfl (v_fieldAddr (off' := 1) Tryz.underlying133 rfl sz36 (by decide) rfl rfl) ?_
    refine x_val rfl rfl rfl (v_load Tryz.underlying36 rfl rfl (at_ownL (vs := [Value.string left, Value.int .i64 e]) (by repeat (first | exact List.Mem.head _ | apply List.Mem.tail)) rfl)) ?_
    refine x_val rfl rfl rfl (v_assign rfl) ?_
    refine x_val rfl rfl rfl (v_assign rfl) ?_
    refine x_end ?_
    refine t_norm ?_
    refine w_ret ?_
    refine t_ret ?_
    refine ret2 rfl rfl rfl (fun w' hm => ⟨_, by rw [hF] <;> rfl, hm.base (by simp), by rw [hF]; exact ⟨none, 0, rfl, Nat.le_refl _, Nat.zero_le _, fun h => absurd h (Nat.lt_irrefl 0)⟩⟩)
   ·obtain rfl : e = 0 := by rw [hb50] at hc50; have := of_decide_eq_false hc50; omega
    have hln : left = ⟨#[]⟩ := by rcases hc42 with h | h; (· exact absurd rfl h); exact h
    rw [hln, fin_ok] at hup
    have hF := hup
    refine w_skip ?_
    refine t_norm ?_
    refine w_seq ?_
    refine rg_text ?_
    refine x_val rfl rfl rfl (v_move rfl) ?_
    refine x_val rfl rfl rfl (v_assign rfl) ?_
    refine x_val rfl rfl rfl (v_assign rfl) ?_
    refine x_end ?_
    refine t_norm ?_
    refine w_ret ?_
    refine ret2 rfl rfl rfl (fun w' hm => ⟨rowV R out.length, by rw [hF], hm.base (by simp), ?_⟩)
    rw [hF]
    exact rowI_rd (e := 3) hR rfl hal hm (fun q hq => by simp [hq]) (fun q hq => hm.newer (by simp) (by simp [hq]))
end Go.Proofs.YtaniaihoodgmpaaGreatDoor

namespace Go.Proofs.YtaniaihoodgmpaaGreatDoor
open Go.RowKit Go.PK
set_option linter.unusedVariables false
set_option linter.unusedSimpArgs false
attribute [local irreducible] WX
set_option maxRecDepth 100000 in
theorem c_chunk (A : Option Addr) (len cp : Nat) (w : World) :
  Calls Tryz.prog 58 #[.slice A len cp, .int .i64 4] w fun e w' => ∃ b2 b3, e = .returned (.func (.func 88) #[] #[.pointer (some ⟨b2, 0, none⟩), .pointer (some ⟨b3, 0, none⟩)]) ∧ Later w w' ∧ Mem w' [(b3, Obj.cells [Value.int .i64 4].toArray 3 (0, 0)), (b2, Obj.cells [Value.slice A len cp].toArray 22 (0, 0))] [(w, fun _ => True)] := by
 refine enter (vs := [.slice A len cp, .int .i64 4]) Tryz.func58 rfl Tryz.ntmps58 rfl ?_
 refine w_seq ?_
 refine rg_text ?_
 refine x_box rfl rfl rfl rfl ?_
 intro p2
 refine x_box rfl rfl rfl rfl ?_
 intro p3
 refine x_val rfl rfl rfl (v_assign rfl) ?_
 refine x_end ?_
 refine t_norm ?_
 refine w_seq ?_
 refine w_seq ?_
 refine rg_text ?_
 refine x_val rfl rfl rfl (v_load Tryz.underlying3 rfl rfl (at_ownL (vs := [Value.int .i64 4]) (by repeat (first | exact List.Mem.head _ | apply List.Mem.tail)) rfl)) ?_
 refine x_bool rfl rfl rfl (v_lss rfl rfl) ?_
 intro b6 hb6
 refine x_end ?_
 refine t_norm ?_
 refine w_cond rfl (fun hc6 => ?_) (fun hc6 => ?_)
 ·simp [hb6] at hc6
 ·skip
  refine w_skip ?_
  refine t_norm ?_
  refine w_seq ?_
  refine rg_text ?_
  refine x_val rfl rfl rfl (v_func rfl) ?_
  refine x_val rfl rfl rfl (v_assign rfl) ?_
  refine x_end ?_
  refine t_norm ?_
  refine w_ret ?_
  exact ret1 rfl rfl (fun w' hm => ⟨p2, p3, rfl, hm.base (by simp), hm⟩)
set_option maxHeartbeats 1000000 in
set_option maxRecDepth 100000 in
theorem c_chunk1 {w : World} {ro : List Snap} {L b2 b3 : Nat} {A : Option Addr} {cp : Nat} {xs : List Int} {σ ρ : Type} (X : σ → List (Nat × Obj)) (Y : ρ → List (Nat × Obj)) (I : Nat → σ → Prop) (J : ρ → Prop) (q : Nat) (hxq : xs.length = 4 * q) (hlc : xs.length ≤ cp) (hmx : xs.length ≤ 1000000000) (x0 : σ) (h0 : I 0 x0) (hm : Mem w ((b3, Obj.cells [Value.int .i64 4].toArray 3 (0, 0)) :: (b2, Obj.cells [Value.slice A xs.length cp].toArray 22 (0, 0)) :: X x0) ro) (hY : ∀ (k : Nat) (x : σ) (w1 : World), k < q → I k x → Mem w1 ((b3, Obj.cells [Value.int .i64 4].toArray 3 (0, 0)) :: (b2, Obj.cells [Value.slice A xs.length cp].toArray 22 (0, 0)) :: X x) ro → YieldAt Fence.wide (2 - 1) Tryz.prog L [Value.slice (A.map (fun a => a.add (4 * k * 1))) 4 4].toArray w1 fun e w2 => ∃ y : σ ⊕ ρ, e = .returned (.bool y.isLeft) ∧ Sum.elim (I (k + 1)) J y ∧ Mem w2 ((b3, Obj.cells [Value.int .i64 4].toArray 3 (0, 0)) :: (b2, Obj.cells [Value.slice A xs.length cp].toArray 22 (0, 0)) :: Sum.elim X Y y) ro) :
  Calls Tryz.prog 88 #[.func (.yield L) #[] #[], .pointer (some ⟨b2, 0, none⟩), .pointer (some ⟨b3, 0, none⟩)] w fun e w' => (∃ v, e = .returned v) ∧ ((∃ x, I q x ∧ Mem w' ((b3, Obj.cells [Value.int .i64 4].toArray 3 (0, 0)) :: (b2, Obj.cells [Value.slice A xs.length cp].toArray 22 (0, 0)) :: X x) ro) ∨ ∃ z, J z ∧ Mem w' ((b3, Obj.cells [Value.int .i64 4].toArray 3 (0, 0)) :: (b2, Obj.cells [Value.slice A xs.length cp].toArray 22 (0, 0)) :: Y z) ro) := by
 refine enter_in hm (vs := [.func (.yield L) #[] #[], .pointer (some ⟨b2, 0, none⟩), .pointer (some ⟨b3, 0, none⟩)]) Tryz.func88 rfl Tryz.ntmps88 rfl ?_
 refine w_seq ?_
 refine rg_text ?_
 refine x_val rfl rfl rfl (v_assign rfl) ?_
 refine x_end ?_
 refine t_norm ?_
 refine w_block ?_
 refine w_loop (σ := Nat × σ) (fun x => x.1 ≤ q ∧ I x.1 x.2) (fun x => [(0, Value.func (.yield L) #[] #[]), (1, Value.pointer (some ⟨b2, 0, none⟩)), (2, Value.pointer (some ⟨b3, 0, none⟩)), (4, Value.int .i64 ((4 * x.1 : Nat) : Int))]) (fun x => (b3, Obj.cells [Value.int .i64 4].toArray 3 (0, 0)) :: (b2, Obj.cells [Value.slice A xs.length cp].toArray 22 (0, 0)) :: X x.2) (fun x => ro) (fun x => q - x.1) ((0, x0)) (⟨Nat.zero_le _, h0⟩) (l_start (by repeat (first | exact Sub.nil | refine Sub.cons rfl ?_)) (fun _ h => h)) ?_
 rintro ⟨k, x⟩ ⟨hkq, hI⟩
 refine w_state ([(0, Value.func (.yield L) #[] #[]), (1, Value.pointer (some ⟨b2, 0, none⟩)), (2, Value.pointer (some ⟨b3, 0, none⟩)), (4, Value.int .i64 ((4 * k : Nat) : Int))]) ((b3, Obj.cells [Value.int .i64 4].toArray 3 (0, 0)) :: (b2, Obj.cells [Value.slice A xs.length cp].toArray 22 (0, 0)) :: X x) (ro) ?_
 dsimp only at hkq hI
 refine w_seq ?_
 refine w_seq ?_
 refine rg_text ?_
 refine x_val rfl rfl rfl (v_move rfl) ?_
 refine x_val rfl rfl rfl (v_load Tryz.underlying22 rfl rfl (at_ownL (vs := [Value.slice A xs.length cp]) (.tail _ (.head _)) rfl)) ?_
 refine x_val rfl rfl rfl (v_len_slice Tryz.underlying22 rfl) ?_
 refine x_bool rfl rfl rfl (v_lss rfl rfl) ?_
 intro b9 hb9
 refine x_end ?_
 refine t_norm ?_
 refine w_cond rfl (fun hc9 => ?_) (fun hc9 => ?_)
 ·simp only [hb9, Qz1, Qz2, Qz3, Qz4, Qz5, Qz6, Qz7, Qz8, Qz9, Qz0] at hc9
  have hkl : k < q := by omega
  refine w_skip ?_
  refine t_norm ?_
  refine w_seq ?_
  refine w_block ?_
  refine w_seq ?_
  refine rg_draw 7 [(true, 0), (true, 1), (true, 2), (true, 3), (true, 4), (true, 5), (true, 6)] (by kernel_rfl) (by kernel_rfl) ?_
  refine x_val rfl rfl rfl (v_load Tryz.underlying3 rfl rfl (at_ownL (vs := [Value.int .i64 4]) (.head _) rfl)) ?_
  refine x_val rfl rfl rfl (v_load Tryz.underlying22 rfl rfl (at_ownL (vs := [Value.slice A xs.length cp]) (.tail _ (.head _)) rfl)) ?_
  refine x_val rfl rfl rfl (v_move rfl) ?_
  refine x_val rfl rfl rfl (v_scut_from (i := 4 * k) Tryz.underlying22 sz3 rfl rfl (by omega) (by omega)) ?_
  refine x_val rfl rfl rfl (v_len_slice Tryz.underlying22 rfl) ?_
  refine x_val (v := Value.int .i64 ((4 : Nat) : Int)) rfl rfl rfl (by rw [show ((4 : Nat) : Int) = min 4 ((xs.length - 4 * k : Nat) : Int) by omega]; exact v_min rfl rfl) ?_
  refine x_val rfl rfl rfl (v_assign rfl) ?_
  refine x_end ?_
  refine t_norm ?_
  refine w_seq ?_
  refine rg_yield 10 2 (by kernel_rfl) rfl ?_
  refine x_val rfl rfl rfl (v_move rfl) ?_
  refine x_val rfl rfl rfl (v_load Tryz.underlying22 rfl rfl (at_ownL (vs := [Value.slice A xs.length cp]) (.tail _ (.head _)) rfl)) ?_
  refine x_val rfl rfl rfl (v_move rfl) ?_
  refine x_val rfl rfl rfl (v_move rfl) ?_
  refine x_val rfl rfl rfl (v_move rfl) ?_
  refine x_val rfl rfl rfl (v_addi (c := ((4 * k + 4 : Nat) : Int)) rfl rfl (by omega) (by omega)) ?_
  refine x_val rfl rfl rfl (v_move rfl) ?_
  refine x_val rfl rfl rfl (v_move rfl) ?_
  refine x_val rfl rfl rfl (v_addi (c := ((4 * k + 4 : Nat) : Int)) rfl rfl (by omega) (by omega)) ?_
  refine x_val (v := Value.slice (A.map (fun a => a.add (4 * k * 1))) 4 4) rfl rfl rfl (v_chunk (i := 4 * k) (n0 := 4) Tryz.underlying22 sz3 rfl rfl rfl rfl (by decide) (by omega)) ?_
  refine x_end ?_
  refine s_yieldV (fun y : σ ⊕ ρ => .bool y.isLeft) (Sum.elim (I (k + 1)) J) (fun y => (b3, Obj.cells [Value.int .i64 4].toArray 3 (0, 0)) :: (b2, Obj.cells [Value.slice A xs.length cp].toArray 22 (0, 0)) :: Sum.elim X Y y) rfl rfl rfl rfl rfl (fun w1 hw1 => hY k x w1 hkl hI hw1) ?_
  intro y hy
  refine s_rest (by kernel_rfl) rfl ?_
  refine x_bool rfl rfl rfl (v_not rfl) ?_
  intro b30 hb30
  refine x_end ?_
  refine t_norm ?_
  refine w_cond rfl (fun hc30 => ?_) (fun hc30 => ?_)
  ·obtain ⟨z, rfl⟩ : ∃ z, y = .inr z := by rw [hb30] at hc30; cases y with | inl x => simp at hc30 | inr z => exact ⟨z, rfl⟩
   refine w_ret ?_
   refine b_ret ?_
   refine t_ret ?_
   refine t_ret ?_
   refine b_ret ?_
   exact retn rfl (fun w' hm => ⟨⟨_, rfl⟩, .inr ⟨z, hy, hm⟩⟩)
  ·obtain ⟨x', rfl⟩ : ∃ x', y = .inl x' := by rw [hb30] at hc30; cases y with | inl x => exact ⟨x, rfl⟩ | inr z => simp at hc30
   refine w_skip ?_
   refine b_norm ?_
   refine t_norm ?_
   refine rg_text ?_
   refine x_val rfl rfl rfl (v_move rfl) ?_
   refine x_val rfl rfl rfl (v_load Tryz.underlying3 rfl rfl (at_ownL (vs := [Value.int .i64 4]) (.head _) rfl)) ?_
   refine x_val rfl rfl rfl (v_addi (c := ((4 * (k + 1) : Nat) : Int)) rfl rfl (by omega) (by omega)) ?_
   refine x_val rfl rfl rfl (v_assign rfl) ?_
   refine x_end ?_
   exact l_norm (x := (k, x)) (μ := fun x : Nat × σ => q - x.1) (k + 1, x') ⟨hkl, hy⟩ (by simp only; omega) (by repeat (first | exact Sub.nil | refine Sub.cons rfl ?_)) (fun _ h => h)
 ·simp only [hb9, Qz1, Qz2, Qz3, Qz4, Qz5, Qz6, Qz7, Qz8, Qz9, Qz0] at hc9
  obtain rfl : k = q := by omega
  refine w_exit ?_
  refine t_exit ?_
  refine t_exit ?_
  refine b_hit ?_
  exact ret0 rfl (fun w' hm => ⟨⟨_, rfl⟩, .inl ⟨x, hI, hm⟩⟩)

end Go.Proofs.YtaniaihoodgmpaaGreatDoor

namespace Go.Proofs.YtaniaihoodgmpaaGreatDoor
open Go.RowKit Go.PK
set_option linter.unusedVariables false
set_option linter.unusedSimpArgs false
theorem s_less {n : Nat} {l : List (Nat × Value)} {own own' : List (Nat × Obj)} {ro : List Snap} {K : Act → World → Prop} (hs : own'.Sublist own) (h : S K n l own' ro) : S K n l own ro := fun a w ha hw => h a w ha (hw.less hs (fun _ h => h))
attribute [local irreducible] WX
theorem k_at4 {D : Nat → Prop} {w : World} {A : Option Addr} {l c : Nat} {xs : List Int} (h : sliceRd tyI D w (.slice A l c) xs) {k : Nat} (hk : k + 3 < xs.length) :
  ∃ bb off a0 a1 a2 a3, A = some ⟨bb, off, none⟩ ∧ D bb ∧ w.cell? ⟨bb, off + (k + 0), none⟩ = some (.int .i64 a0) ∧ w.cell? ⟨bb, off + (k + 1), none⟩ = some (.int .i64 a1) ∧ w.cell? ⟨bb, off + (k + 2), none⟩ = some (.int .i64 a2) ∧ w.cell? ⟨bb, off + (k + 3), none⟩ = some (.int .i64 a3) ∧ in64 a0 ∧ in64 a1 ∧ in64 a2 ∧ in64 a3 ∧ xs.drop k = a0 :: a1 :: a2 :: a3 :: xs.drop (k + 4) := by
 obtain ⟨A', c', e, h1, h2, h3⟩ := h
 injection e with e1 e2 e3
 obtain ⟨bb, off, hA, hD, hb, hc⟩ := h3 (by omega)
 have key : ∀ j (hj : j < xs.length), w.cell? ⟨bb, off + j, none⟩ = some (.int .i64 xs[j]) ∧ in64 xs[j] := fun j hj => by
  obtain ⟨cs, hcs, rfl, hok⟩ := hc j hj
  have := hcs 0 (by simp)
  exact ⟨by simpa [tyI] using this, hok⟩
 refine ⟨bb, off, xs[k], xs[k + 1], xs[k + 2], xs[k + 3], e1.trans hA, hD, (key k (by omega)).1, (key _ (by omega)).1, (key _ (by omega)).1, (key _ (by omega)).1, (key _ (by omega)).2, (key _ (by omega)).2, (key _ (by omega)).2, (key _ (by omega)).2, ?_⟩
 rw [List.drop_eq_getElem_cons (by omega), List.drop_eq_getElem_cons (by omega), List.drop_eq_getElem_cons (by omega), List.drop_eq_getElem_cons (by omega)]
set_option maxHeartbeats 2000000 in
set_option maxRecDepth 100000 in
theorem c_Open (s : ByteArray) (w : World) (hs : s.size ≤ 2000000) (hL : LD w) :
  Calls Tryz.prog 23 #[.string s] w fun e w' => ∃ v, e = .returned (.tuple #[v, .int .i64 (if (openG readQ s).isSome then 0 else 11)]) ∧ Later w w' ∧ OpOK (fun b => w.heap.size ≤ b) w' v (openG readQ s) := by
 refine enterM (vs := [.string s]) 2 Tryz.func23 rfl Tryz.ntmps23 rfl ?_
 refine w_seq ?_
 refine rg_text ?_
 refine x_alloc rfl rfl rfl zr28 ?_
 intro p2
 refine x_alloc rfl rfl rfl zr36 ?_
 intro p3
 refine x_end ?_
 refine t_norm ?_
 refine w_seq ?_
 refine rg_text ?_
 refine x_val rfl rfl rfl (v_move rfl) ?_
 refine x_call (R := fun v wa wb => ∃ v2, v = .tuple #[v2, Value.int .i64 (unpQ s).2] ∧ sliceRd tyStr (fun b => wa.heap.size ≤ b) wb v2 (unpQ s).1) rfl rfl rfl Tryz.func56 (by kernel_rfl) rfl (fun w1 hw1 => (c_Unp s w1 hs).mono fun e w2 ⟨v, h1, h2, h3⟩ => ⟨_, h1, h2, v, rfl, h3⟩) ?_
 intro v14 wa14 wb14 hm14 hl14 hR14
 obtain ⟨v14_, rfl, hn14⟩ := hR14
 obtain ⟨A14, k14, rfl, _⟩ := id hn14
 obtain ⟨us, hus⟩ : ∃ l, (unpQ s).1 = l := ⟨_, rfl⟩
 obtain ⟨ue, hue⟩ : ∃ l, (unpQ s).2 = l := ⟨_, rfl⟩
 rw [hus] at hn14
 rw [hus, hue]
 refine x_val rfl rfl rfl (v_move rfl) ?_
 refine x_val rfl rfl rfl (v_extract rfl rfl) ?_
 refine x_val rfl rfl rfl (v_extract rfl rfl) ?_
 refine x_val rfl rfl rfl (v_assign rfl) ?_
 refine x_val rfl rfl rfl (v_assign rfl) ?_
 refine x_end ?_
 refine t_norm ?_
 refine w_seq ?_
 refine w_seq ?_
 refine rg_text ?_
 refine x_val rfl rfl rfl (v_move rfl) ?_
 refine x_bool rfl rfl rfl (v_neq rfl rfl) ?_
 intro b18 hb18
 refine x_val rfl rfl rfl (v_move rfl) ?_
 refine x_if [] rfl rfl rfl rfl rfl (fun hg => by obtain ⟨hg0, _⟩ := hg; subst hg0; (try simp only [Qy1, Qy2, gvl_nil, gvl_t, gvl_f]); exact v_move rfl) ?_
 refine x_if [] rfl rfl rfl rfl rfl (fun hg => by obtain ⟨hg0, _⟩ := hg; subst hg0; (try simp only [Qy1, Qy2, gvl_nil, gvl_t, gvl_f]); exact v_len_slice Tryz.underlying55 rfl) ?_
 refine x_ifb [] rfl rfl rfl rfl rfl (fun hg => by obtain ⟨hg0, _⟩ := hg; subst hg0; (try simp only [Qy1, Qy2, gvl_nil, gvl_t, gvl_f]); exact v_neq rfl rfl) ?_
 intro b22 hb22
 refine x_bool rfl rfl rfl (v_or rfl rfl) ?_
 intro b23 hb23
 refine x_end ?_
 refine t_norm ?_
 refine w_cond rfl (fun hc23 => ?_) (fun hc23 => ?_)
 ·simp only [hb23, hb22, hb18, Qz1, Qz2, Qz3, Qz4, Qz5, Qz6, Qz7, Qz8, Qz9, Qz0] at hc23
  have hF : openG readQ s = none := by
   unfold openG
   rw [hus, hue, if_pos (by rcases hc23 with h | h; (· exact .inl h); exact .inr (by omega))]
  refine w_seq ?_
  refine rg_text ?_
  refine x_store (cs := [Value.pointer none]) (off := 0) (e := 28) (l2 := []) [(p3, Obj.cells [Value.int .i64 0].toArray 36 (0, 0))] rfl rfl rfl rfl sz28 rfl (by show 1 ≤ 1; decide) ?_
  refine x_store (cs := [Value.int .i64 0]) (off := 0) (e := 36) (l2 := [(p2, Obj.cells [Value.pointer none].toArray 28 (0, 0))]) [] rfl rfl rfl rfl sz36 rfl (by show 1 ≤ 1; decide) ?_
  refine x_end ?_
  refine t_norm ?_
  refine w_ret ?_
  refine t_ret ?_
  refine ret2M0 (m := 2) (b := p2) (b2 := p3) (v := .pointer none) (v2 := Value.int .i64 11) rfl rfl rfl Tryz.underlying28 rfl Tryz.underlying36 rfl (at_ownL (vs := [Value.pointer none]) (by repeat (first | exact List.Mem.head _ | apply List.Mem.tail)) rfl) (at_ownL (vs := [Value.int .i64 11]) (by repeat (first | exact List.Mem.head _ | apply List.Mem.tail)) rfl) (fun w' hm => ⟨_, by rw [hF]; rfl, hm.base (by simp), by rw [hF]; exact rfl⟩)
 ·simp only [hb23, hb22, hb18, Qz1, Qz2, Qz3, Qz4, Qz5, Qz6, Qz7, Qz8, Qz9, Qz0] at hc23
  obtain ⟨hue0, hul⟩ : ue = 0 ∧ us.length = 2 := ⟨hc23.1, by have := hc23.2; omega⟩
  subst hue0
  obtain ⟨t0, t1, rfl⟩ : ∃ a b, us = [a, b] := by
   match us, hul with
   | [a, b], _ => exact ⟨a, b, rfl⟩
  obtain ⟨b14, o14, hA0, hD0, hc0, hz0⟩ := s_at hn14 (k := 0) (by simp)
  obtain ⟨b15, o15, hA1, hD1, hc1, hz1⟩ := s_at hn14 (k := 1) (by simp)
  have hsz := unp_back (s := s) (xs := [t0, t1]) (by rw [← hus, ← hue])
  have hs0 : t0.size ≤ s.size ∧ t1.size ≤ s.size := by
   have h := congrArg List.length hsz
   rw [bl_len] at h
   unfold packG at h
   simp only [List.flatMap_cons, List.flatMap_nil, List.length_append, bl_len] at h
   omega
  refine w_skip ?_
  refine t_norm ?_
  refine w_seq ?_
  refine rg_text ?_
  refine x_val rfl rfl rfl (v_buildL (places := [(0, 4), (4, 1)]) Tryz.underlying61 zr61 (by kernel_rfl) rfl rfl) ?_
  refine x_box rfl rfl rfl rfl ?_
  intro p25
  refine x_alloc rfl rfl rfl zr28 ?_
  intro p6
  refine x_store [] rfl rfl rfl rfl sz28 rfl (by first | decide | simp) ?_
  refine x_end ?_
  refine t_norm ?_
  refine w_seq_cut (σ := Pat × Int × Option Addr × Nat × Option Addr × Nat × World) (fun y => headQ readQ t0 = (y.1, y.2.1) ∧ patRd (newD w ([(p6, Obj.cells [Value.pointer (some ⟨p25, 0, none⟩)].toArray 28 (0, 0)), (p25, Obj.cells ([Value.int .i64 y.1.first, Value.int .i64 y.1.days, Value.slice y.2.2.1 y.1.lv.length y.2.2.2.1, Value.slice y.2.2.2.2.1 y.1.st.length y.2.2.2.2.2.1, Value.slice none 0 0]).toArray 61 (0, 0)), (p3, Obj.cells [Value.int .i64 0].toArray 36 (0, 0)), (p2, Obj.cells [Value.pointer none].toArray 28 (0, 0))])) y.2.2.2.2.2.2 y.1 (Value.slice y.2.2.1 y.1.lv.length y.2.2.2.1) (Value.slice y.2.2.2.2.1 y.1.st.length y.2.2.2.2.2.1)) (fun y => [(2, Value.pointer (some ⟨p2, 0, none⟩)), (3, Value.pointer (some ⟨p3, 0, none⟩)), (4, Value.slice A14 2 k14), (5, Value.int .i64 y.2.1), (6, Value.pointer (some ⟨p6, 0, none⟩))]) (fun y => [(p6, Obj.cells [Value.pointer (some ⟨p25, 0, none⟩)].toArray 28 (0, 0)), (p25, Obj.cells ([Value.int .i64 y.1.first, Value.int .i64 y.1.days, Value.slice y.2.2.1 y.1.lv.length y.2.2.2.1, Value.slice y.2.2.2.2.1 y.1.st.length y.2.2.2.2.2.1, Value.slice none 0 0]).toArray 61 (0, 0)), (p3, Obj.cells [Value.int .i64 0].toArray 36 (0, 0)), (p2, Obj.cells [Value.pointer none].toArray 28 (0, 0))]) (fun y => (y.2.2.2.2.2.2, notOwn ([(p6, Obj.cells [Value.pointer (some ⟨p25, 0, none⟩)].toArray 28 (0, 0)), (p25, Obj.cells ([Value.int .i64 y.1.first, Value.int .i64 y.1.days, Value.slice y.2.2.1 y.1.lv.length y.2.2.2.1, Value.slice y.2.2.2.2.1 y.1.st.length y.2.2.2.2.2.1, Value.slice none 0 0]).toArray 61 (0, 0)), (p3, Obj.cells [Value.int .i64 0].toArray 36 (0, 0)), (p2, Obj.cells [Value.pointer none].toArray 28 (0, 0))])) :: (wb14, notOwn [(p3, Obj.cells [Value.int .i64 0].toArray 36 (0, 0)), (p2, Obj.cells [Value.pointer none].toArray 28 (0, 0))]) :: [(w, fun _ => True)]) ?_ ?_
  ·refine w_seq ?_
   refine rg_text ?_
   refine x_val rfl rfl rfl (v_move rfl) ?_
   refine x_val rfl rfl rfl (v_indexAddr (j := 0) Tryz.underlying55 sz9 (congrArg (fun A => some (Value.slice A 2 k14)) hA0) rfl (by simp) rfl) ?_
   refine x_val rfl rfl rfl (v_load Tryz.underlying9 rfl rfl (at_ro (s := (wb14, notOwn [(p3, Obj.cells [Value.int .i64 0].toArray 36 (0, 0)), (p2, Obj.cells [Value.pointer none].toArray 28 (0, 0))])) (by repeat (first | exact List.Mem.head _ | apply List.Mem.tail)) (fun q hq he => by have := hm14.lt hq; omega) (by rw [Nat.mul_one]; exact hc0))) ?_
   refine x_bool rfl rfl rfl (v_sneq rfl rfl) ?_
   intro b29 hb29
   refine x_end ?_
   refine t_norm ?_
   refine w_cond rfl (fun hc29 => ?_) (fun hc29 => ?_)
   ·simp only [hb29, Qz1, Qz2, Qz3, Qz4, Qz5, Qz6, Qz7, Qz8, Qz9, Qz0] at hc29
    have htn : t0 ≠ ⟨#[]⟩ := hc29
    refine rg_inv ([(p6, Obj.cells [Value.pointer (some ⟨p25, 0, none⟩)].toArray 28 (0, 0))]) 12 (.flt 0 (.flt 1 (.flt 2 (.flt 3 (.gr 4 (.flt 5 (.flt 6 (.flt 7 (.flt 8 (.flt 9 (.gr 10 (.flt 11 .done) .nil)))))) .nil))))) (by repeat (first | exact (List.nil_sublist _).cons_cons _ | apply List.Sublist.cons)) (by kernel_rfl) (by kernel_rfl) ?_
    refine k_val rfl rfl (v_load Tryz.underlying28 rfl rfl (by first | exact at_ownL (.head _) rfl | exact at_ownL (.tail _ (.head _)) rfl | exact at_ownL (.tail _ (.tail _ (.head _))) rfl | (apply at_ownL; ((repeat (first | exact List.Mem.head _ | apply List.Mem.tail | apply List.mem_append_right))); rfl) | (refine at_ro (by first | exact .head _ | exact .tail _ (.head _) | exact .tail _ (.tail _ (.head _)) | simp) ?_ (by assumption); trivial))) ?_
    refine k_val rfl rfl (v_move rfl) ?_
    refine k_val rfl rfl (v_indexAddr (j := 0) Tryz.underlying55 sz9 (congrArg (fun A => some (Value.slice A 2 k14)) hA0) rfl (by simp) rfl) ?_
    refine k_val rfl rfl (v_load Tryz.underlying9 rfl rfl (at_ro (s := (wb14, notOwn [(p3, Obj.cells [Value.int .i64 0].toArray 36 (0, 0)), (p2, Obj.cells [Value.pointer none].toArray 28 (0, 0))])) (by repeat (first | exact List.Mem.head _ | apply List.Mem.tail)) (fun q hq he => by have := hm14.lt hq; omega) (by rw [Nat.mul_one]; exact hc0))) ?_
    refine k_gr ?_ k_nil
    refine x_call (R := fun v wa wb => ∃ v1 v2, v = .tuple #[.agg #[.int .i64 (readQ t0).1.first, .int .i64 (readQ t0).1.days, v1, v2], Value.int .i64 (readQ t0).2] ∧ patRd (fun b => wa.heap.size ≤ b) wb (readQ t0).1 v1 v2) rfl rfl rfl Tryz.func28 (by kernel_rfl) rfl (fun w1 hw1 => (c_Read t0 w1 (by omega) (hL.later (hw1.base (by simp)))).mono fun e w2 ⟨v1, v2, h1, h2, h3⟩ => ⟨_, h1, h2, v1, v2, rfl, h3⟩) ?_
    intro v35 wa35 wb35 hm35 hl35 hR35
    obtain ⟨v1, v2, rfl, hpr⟩ := hR35
    obtain ⟨p, hp⟩ : ∃ p, (readQ t0).1 = p := ⟨_, rfl⟩
    obtain ⟨e5, he5⟩ : ∃ e, (readQ t0).2 = e := ⟨_, rfl⟩
    rw [hp] at hpr
    rw [hp, he5]
    obtain ⟨A1, c1, rfl, -⟩ := id hpr.2.2.1
    obtain ⟨A2, c2, rfl, -⟩ := id hpr.2.2.2
    refine x_end ?_
    refine k_end ((List.nil_sublist _).cons_cons _) (fun _ h => List.mem_cons_of_mem _ h) ?_
    refine k_val rfl rfl (v_move rfl) ?_
    refine k_val rfl rfl (v_extract rfl rfl) ?_
    refine k_val rfl rfl (v_extract rfl rfl) ?_
    refine k_val rfl rfl (v_nilCheck rfl) ?_
    refine k_val rfl rfl (v_fieldAddr Tryz.underlying61 rfl sz26 (by decide) rfl rfl) ?_
    refine k_gr ?_ k_nil
    refine x_store (cs := [Value.int .i64 0, Value.int .i64 0, Value.slice none 0 0, Value.slice none 0 0, Value.slice none 0 0]) (off := 0) (e := 61) (l2 := [(p3, Obj.cells [Value.int .i64 0].toArray 36 (0, 0)), (p2, Obj.cells [Value.pointer none].toArray 28 (0, 0))]) [(p6, Obj.cells [Value.pointer (some ⟨p25, 0, none⟩)].toArray 28 (0, 0))] rfl rfl rfl rfl sz26 rfl (by show 4 ≤ 5; decide) ?_
    refine x_end ?_
    refine k_end (List.sublist_append_left _ _) (fun _ h => List.mem_cons_of_mem _ h) ?_
    refine k_val rfl rfl (v_assign rfl) ?_
    refine k_done ?_
    refine x_end ?_
    refine s_fix ([(p6, Obj.cells [Value.pointer (some ⟨p25, 0, none⟩)].toArray 28 (0, 0)), (p25, Obj.cells ([Value.int .i64 p.first, Value.int .i64 p.days, Value.slice A1 p.lv.length c1, Value.slice A2 p.st.length c2, Value.slice none 0 0]).toArray 61 (0, 0)), (p3, Obj.cells [Value.int .i64 0].toArray 36 (0, 0)), (p2, Obj.cells [Value.pointer none].toArray 28 (0, 0))]) (List.Sublist.refl _) (fun w0 hm0 => ?_)
    exact c_norm (p, e5, A1, c1, A2, c2, w0) ⟨by unfold headQ; rw [if_pos htn, ← hp, ← he5], patRd.keep hpr (Kept.made hm0 (by repeat (first | exact List.Mem.head _ | apply List.Mem.tail)) hm35 (hm35.base (by simp)).size)⟩ (by repeat (first | exact Sub.nil | refine Sub.cons rfl ?_)) (fun w1 h => h.less (List.Sublist.refl _) (fun s hs => by simp only [List.mem_cons] at hs ⊢; rcases hs with h | h | h; (· exact .inl h); (· exact .inr (.inr (.inl h))); exact .inr (.inr (.inr h))))
   ·simp only [hb29, Qz1, Qz2, Qz3, Qz4, Qz5, Qz6, Qz7, Qz8, Qz9, Qz0] at hc29
    have htn : t0 = ⟨#[]⟩ := hc29
    refine w_skip ?_
    refine s_fix ([(p6, Obj.cells [Value.pointer (some ⟨p25, 0, none⟩)].toArray 28 (0, 0)), (p25, Obj.cells ([Value.int .i64 0, Value.int .i64 0, Value.slice none 0 0, Value.slice none 0 0, Value.slice none 0 0]).toArray 61 (0, 0)), (p3, Obj.cells [Value.int .i64 0].toArray 36 (0, 0)), (p2, Obj.cells [Value.pointer none].toArray 28 (0, 0))]) (List.Sublist.refl _) (fun w0 hm0 => ?_)
    exact c_norm (zeroPat, 0, none, 0, none, 0, w0) ⟨by unfold headQ; rw [if_neg (fun h => h htn)], (show in64 0 by unfold in64; decide), (show in64 0 by unfold in64; decide), ⟨none, 0, rfl, Nat.le_refl _, Nat.zero_le _, fun h => absurd h (Nat.lt_irrefl 0)⟩, ⟨none, 0, rfl, Nat.le_refl _, Nat.zero_le _, fun h => absurd h (Nat.lt_irrefl 0)⟩⟩ (by repeat (first | exact Sub.nil | refine Sub.cons rfl ?_)) (fun w1 h => h)
  ·rintro ⟨p, e5, A1, c1, A2, c2, ws⟩ ⟨hpe, hpr⟩
   refine w_state ([(2, Value.pointer (some ⟨p2, 0, none⟩)), (3, Value.pointer (some ⟨p3, 0, none⟩)), (4, Value.slice A14 2 k14), (5, Value.int .i64 e5), (6, Value.pointer (some ⟨p6, 0, none⟩))]) ([(p6, Obj.cells [Value.pointer (some ⟨p25, 0, none⟩)].toArray 28 (0, 0)), (p25, Obj.cells ([Value.int .i64 p.first, Value.int .i64 p.days, Value.slice A1 p.lv.length c1, Value.slice A2 p.st.length c2, Value.slice none 0 0]).toArray 61 (0, 0)), (p3, Obj.cells [Value.int .i64 0].toArray 36 (0, 0)), (p2, Obj.cells [Value.pointer none].toArray 28 (0, 0))]) ((ws, notOwn ([(p6, Obj.cells [Value.pointer (some ⟨p25, 0, none⟩)].toArray 28 (0, 0)), (p25, Obj.cells ([Value.int .i64 p.first, Value.int .i64 p.days, Value.slice A1 p.lv.length c1, Value.slice A2 p.st.length c2, Value.slice none 0 0]).toArray 61 (0, 0)), (p3, Obj.cells [Value.int .i64 0].toArray 36 (0, 0)), (p2, Obj.cells [Value.pointer none].toArray 28 (0, 0))])) :: (wb14, notOwn [(p3, Obj.cells [Value.int .i64 0].toArray 36 (0, 0)), (p2, Obj.cells [Value.pointer none].toArray 28 (0, 0))]) :: [(w, fun _ => True)]) ?_
   dsimp only at hpe hpr
   have hG : openG readQ s = if e5 ≠ 0 ∨ (riQ t1).2 ≠ 0 ∨ (riQ t1).1.length % 4 ≠ 0 ∨ (0 < (riQ t1).1.length ∧ t0 = ⟨#[]⟩) then none else (opE 0 (riQ t1).1).map fun es => (p, es) := by
    unfold openG
    rw [hus, hue, if_neg (by simp)]
    show (if (headQ readQ t0).2 ≠ 0 ∨ (riQ t1).2 ≠ 0 ∨ (riQ t1).1.length % 4 ≠ 0 ∨ (0 < (riQ t1).1.length ∧ t0 = ⟨#[]⟩) then none else (opE 0 (riQ t1).1).map fun es => ((headQ readQ t0).1, es)) = _
    rw [hpe]
   refine w_seq ?_
   refine rg_text ?_
   refine x_val rfl rfl rfl (v_move rfl) ?_
   refine x_val rfl rfl rfl (v_indexAddr (j := 1) Tryz.underlying55 sz9 (congrArg (fun A => some (Value.slice A 2 k14)) hA1) rfl (by simp) rfl) ?_
   refine x_val rfl rfl rfl (v_load Tryz.underlying9 rfl rfl (at_ro (s := (wb14, notOwn [(p3, Obj.cells [Value.int .i64 0].toArray 36 (0, 0)), (p2, Obj.cells [Value.pointer none].toArray 28 (0, 0))])) (by repeat (first | exact List.Mem.head _ | apply List.Mem.tail)) (fun q hq he => by have := hm14.lt hq; omega) (by rw [Nat.mul_one]; exact hc1))) ?_
   refine x_call (R := fun v wa wb => ∃ v2, v = .tuple #[v2, Value.int .i64 (riQ t1).2] ∧ sliceRd tyI (fun b => wa.heap.size ≤ b) wb v2 (riQ t1).1) rfl rfl rfl Tryz.func57 (by kernel_rfl) rfl (fun w1 hw1 => (c_RI t1 w1 (by omega)).mono fun e w2 ⟨v, h1, h2, h3⟩ => ⟨_, h1, h2, v, rfl, h3⟩) ?_
   intro v44 wa44 wb44 hm44 hl44 hR44
   obtain ⟨v44_, rfl, hn44⟩ := hR44
   obtain ⟨A44, k44, rfl, _⟩ := id hn44
   obtain ⟨xs, hxs⟩ : ∃ l, (riQ t1).1 = l := ⟨_, rfl⟩
   obtain ⟨fe, hfe⟩ : ∃ l, (riQ t1).2 = l := ⟨_, rfl⟩
   rw [hxs] at hn44
   rw [hxs, hfe] at hG
   rw [hxs, hfe]
   refine x_val rfl rfl rfl (v_move rfl) ?_
   refine x_val rfl rfl rfl (v_extract rfl rfl) ?_
   refine x_val rfl rfl rfl (v_extract rfl rfl) ?_
   refine x_val rfl rfl rfl (v_assign rfl) ?_
   refine x_val rfl rfl rfl (v_assign rfl) ?_
   refine x_end ?_
   refine t_norm ?_
   refine w_seq ?_
   refine w_seq ?_
   refine rg_text ?_
   refine x_val rfl rfl rfl (v_move rfl) ?_
   refine x_bool rfl rfl rfl (v_neq rfl rfl) ?_
   intro b48 hb48
   refine x_val rfl rfl rfl (v_move rfl) ?_
   refine x_if [] rfl rfl rfl rfl rfl (fun hg => by obtain ⟨hg0, _⟩ := hg; subst hg0; (try simp only [Qy1, Qy2, gvl_nil, gvl_t, gvl_f]); exact v_move rfl) ?_
   refine x_ifb [] rfl rfl rfl rfl rfl (fun hg => by obtain ⟨hg0, _⟩ := hg; subst hg0; (try simp only [Qy1, Qy2, gvl_nil, gvl_t, gvl_f]); exact v_neq rfl rfl) ?_
   intro b51 hb51
   refine x_bool rfl rfl rfl (v_or rfl rfl) ?_
   intro b52 hb52
   refine x_val rfl rfl rfl (v_move rfl) ?_
   refine x_if [] rfl rfl rfl rfl rfl (fun hg => by obtain ⟨hg0, _⟩ := hg; subst hg0; (try simp only [Qy1, Qy2, gvl_nil, gvl_t, gvl_f]); exact v_move rfl) ?_
   refine x_if [] rfl rfl rfl rfl rfl (fun hg => by obtain ⟨hg0, _⟩ := hg; subst hg0; (try simp only [Qy1, Qy2, gvl_nil, gvl_t, gvl_f]); exact v_len_slice Tryz.underlying22 rfl) ?_
   refine x_if [] (v := Value.int .i64 ((xs.length % 4 : Nat) : Int)) rfl rfl rfl rfl rfl (fun hg => by obtain ⟨hg0, _⟩ := hg; subst hg0; (try simp only [Qy1, Qy2, gvl_nil, gvl_t, gvl_f]); exact v_remN (b := 4) rfl rfl (by decide)) ?_
   refine x_ifb [] rfl rfl rfl rfl rfl (fun hg => by obtain ⟨hg0, _⟩ := hg; subst hg0; (try simp only [Qy1, Qy2, gvl_nil, gvl_t, gvl_f]); exact v_neq rfl rfl) ?_
   intro b57 hb57
   refine x_bool rfl rfl rfl (v_or rfl rfl) ?_
   intro b58 hb58
   refine x_val rfl rfl rfl (v_move rfl) ?_
   refine x_if [] rfl rfl rfl rfl rfl (fun hg => by obtain ⟨hg0, _⟩ := hg; subst hg0; (try simp only [Qy1, Qy2, gvl_nil, gvl_t, gvl_f]); exact v_move rfl) ?_
   refine x_if [] rfl rfl rfl rfl rfl (fun hg => by obtain ⟨hg0, _⟩ := hg; subst hg0; (try simp only [Qy1, Qy2, gvl_nil, gvl_t, gvl_f]); exact v_len_slice Tryz.underlying22 rfl) ?_
   refine x_ifb [] rfl rfl rfl rfl rfl (fun hg => by obtain ⟨hg0, _⟩ := hg; subst hg0; (try simp only [Qy1, Qy2, gvl_nil, gvl_t, gvl_f]); exact v_gtr rfl rfl) ?_
   intro b62 hb62
   refine x_if [] rfl rfl rfl rfl rfl (fun hg => by obtain ⟨hg0, _⟩ := hg; subst hg0; (try simp only [Qy1, Qy2, gvl_nil, gvl_t, gvl_f]); exact v_move rfl) ?_
   refine x_if [(b58, false)] rfl rfl rfl rfl rfl (fun hg => by obtain ⟨hg0, hg1, _⟩ := hg; subst hg0; subst hg1; (try simp only [Qy1, Qy2, gvl_nil, gvl_t, gvl_f]); exact v_move rfl) ?_
   refine x_if [(b58, false)] rfl rfl rfl rfl rfl (fun hg => by obtain ⟨hg0, hg1, _⟩ := hg; subst hg0; subst hg1; (try simp only [Qy1, Qy2, gvl_nil, gvl_t, gvl_f]); exact v_indexAddr (j := 0) Tryz.underlying55 sz9 (congrArg (fun A => some (Value.slice A 2 k14)) hA0) rfl (by simp) rfl) ?_
   refine x_if [(b58, false)] rfl rfl rfl rfl rfl (fun hg => by obtain ⟨hg0, hg1, _⟩ := hg; subst hg0; subst hg1; (try simp only [Qy1, Qy2, gvl_nil, gvl_t, gvl_f]); exact v_load Tryz.underlying9 rfl rfl (at_ro (s := (wb14, notOwn [(p3, Obj.cells [Value.int .i64 0].toArray 36 (0, 0)), (p2, Obj.cells [Value.pointer none].toArray 28 (0, 0))])) (by repeat (first | exact List.Mem.head _ | apply List.Mem.tail)) (fun q hq he => by have := hm14.lt hq; omega) (by rw [Nat.mul_one]; exact hc0))) ?_
   refine x_ifb [(b58, false)] rfl rfl rfl rfl rfl (fun hg => by obtain ⟨hg0, hg1, _⟩ := hg; subst hg0; subst hg1; (try simp only [Qy1, Qy2, gvl_nil, gvl_t, gvl_f]); exact v_seql rfl rfl) ?_
   intro b67 hb67
   refine x_ifb [] rfl rfl rfl rfl rfl (fun hg => by obtain ⟨hg0, _⟩ := hg; subst hg0; (try simp only [Qy1, Qy2, gvl_nil, gvl_t, gvl_f]); exact v_and rfl rfl) ?_
   intro b68 hb68
   refine x_bool rfl rfl rfl (v_or rfl rfl) ?_
   intro b69 hb69
   refine x_end ?_
   refine t_norm ?_
   refine w_cond rfl (fun hc69 => ?_) (fun hc69 => ?_)
   ·simp only [hb69, hb68, hb67, hb62, hb58, hb57, hb52, hb51, hb48, Qz1, Qz2, Qz3, Qz4, Qz5, Qz6, Qz7, Qz8, Qz9, Qz0] at hc69
    have hF : openG readQ s = none := by
     rw [hG, if_pos]
     rcases hc69 with ((h | h) | h) | h
     ·exact .inl h
     ·exact .inr (.inl h)
     ·exact .inr (.inr (.inl (by omega)))
     ·exact .inr (.inr (.inr ⟨by omega, h.2⟩))
    refine w_seq ?_
    refine rg_text ?_
    refine x_store (cs := [Value.pointer none]) (off := 0) (e := 28) (l2 := []) [(p6, Obj.cells [Value.pointer (some ⟨p25, 0, none⟩)].toArray 28 (0, 0)), (p25, Obj.cells ([Value.int .i64 p.first, Value.int .i64 p.days, Value.slice A1 p.lv.length c1, Value.slice A2 p.st.length c2, Value.slice none 0 0]).toArray 61 (0, 0)), (p3, Obj.cells [Value.int .i64 0].toArray 36 (0, 0))] rfl rfl rfl rfl sz28 rfl (by show 1 ≤ 1; decide) ?_
    refine x_store (cs := [Value.int .i64 0]) (off := 0) (e := 36) (l2 := [(p2, Obj.cells [Value.pointer none].toArray 28 (0, 0))]) [(p6, Obj.cells [Value.pointer (some ⟨p25, 0, none⟩)].toArray 28 (0, 0)), (p25, Obj.cells ([Value.int .i64 p.first, Value.int .i64 p.days, Value.slice A1 p.lv.length c1, Value.slice A2 p.st.length c2, Value.slice none 0 0]).toArray 61 (0, 0))] rfl rfl rfl rfl sz36 rfl (by show 1 ≤ 1; decide) ?_
    refine x_end ?_
    refine t_norm ?_
    refine w_ret ?_
    refine t_ret ?_
    refine ret2M0 (m := 2) (b := p2) (b2 := p3) (v := .pointer none) (v2 := Value.int .i64 11) rfl rfl rfl Tryz.underlying28 rfl Tryz.underlying36 rfl (at_ownL (vs := [Value.pointer none]) (by repeat (first | exact List.Mem.head _ | apply List.Mem.tail)) rfl) (at_ownL (vs := [Value.int .i64 11]) (by repeat (first | exact List.Mem.head _ | apply List.Mem.tail)) rfl) (fun w' hm => ⟨_, by rw [hF]; rfl, hm.base (by simp), by rw [hF]; exact rfl⟩)
   ·simp only [hb69, hb68, hb67, hb62, hb58, hb57, hb52, hb51, hb48, Qz1, Qz2, Qz3, Qz4, Qz5, Qz6, Qz7, Qz8, Qz9, Qz0] at hc69
    obtain ⟨⟨⟨he0, hf0⟩, hl4⟩, hl0⟩ := hc69
    rw [if_neg (by rintro (h | h | h | h); (· exact h he0); (· exact h hf0); (· omega); rcases hl0 with h9 | h9; (· omega); exact h9 h.2)] at hG
    refine w_skip ?_
    refine t_norm ?_
    refine w_seq ?_
    refine rg_text ?_
    refine x_alloc rfl rfl rfl zr3 ?_
    intro p9
    refine x_store [] rfl rfl rfl rfl sz3 rfl (by first | decide | simp) ?_
    refine x_end ?_
    refine t_norm ?_
    refine w_seq ?_
    refine w_seq ?_
    refine rg_text ?_
    refine x_val rfl rfl rfl (v_move rfl) ?_
    refine x_own (τ := Nat × Nat) (fun x => .func (.func 88) #[] #[.pointer (some ⟨x.1, 0, none⟩), .pointer (some ⟨x.2, 0, none⟩)]) (fun _ => True) (fun x => (x.2, Obj.cells [Value.int .i64 4].toArray 3 (0, 0)) :: (x.1, Obj.cells [Value.slice A44 xs.length k44].toArray 22 (0, 0)) :: (p9, Obj.cells [Value.int .i64 0].toArray 3 (0, 0)) :: [(p6, Obj.cells [Value.pointer (some ⟨p25, 0, none⟩)].toArray 28 (0, 0)), (p25, Obj.cells ([Value.int .i64 p.first, Value.int .i64 p.days, Value.slice A1 p.lv.length c1, Value.slice A2 p.st.length c2, Value.slice none 0 0]).toArray 61 (0, 0)), (p3, Obj.cells [Value.int .i64 0].toArray 36 (0, 0)), (p2, Obj.cells [Value.pointer none].toArray 28 (0, 0))]) rfl rfl rfl Tryz.func58 (by kernel_rfl) rfl (fun w1 hw1 => (c_chunk A44 xs.length k44 w1).mono fun e w2 ⟨b2, b3, h1, h2, h3⟩ => ⟨(b2, b3), h1, h2, trivial, (hw1.join2 h3).to (by first | (simp; done) | (simp; rfl))⟩) ?_
    rintro ⟨b2, b3⟩ _
    refine x_end ?_
    refine t_norm ?_
    refine w_block ?_
    have hlc44 : xs.length ≤ k44 := by
     obtain ⟨A', c', e, h1, _⟩ := id hn44
     injection e with _ _ e3
     omega
    have hxl : xs.length ≤ 2000000 := by
     have := ri_len (s := t1) (xs := xs) (by rw [← hxs, ← hf0, ← hfe])
     omega
    refine w_rangeR (τ := Int × List Ent × RowS) (σ := Int × List Ent × RowS) (fun x => opE 0 xs = (opE x.1 (xs.drop (4 * (xs.length / 4)))).map (x.2.1 ++ ·) ∧ (0 ≤ x.1 ∧ x.1 ≤ 100000) ∧ x.2.1.length = (xs.length / 4) ∧ rowOK 4 x.2.2 x.2.1.length (entsC x.2.1) ∧ ∀ y ∈ x.2.1, entOK y) (fun x => (b3, Obj.cells [Value.int .i64 4].toArray 3 (0, 0)) :: (b2, Obj.cells [Value.slice A44 xs.length k44].toArray 22 (0, 0)) :: (p9, Obj.cells [Value.int .i64 x.1].toArray 3 (0, 0)) :: (p6, Obj.cells [Value.pointer (some ⟨p25, 0, none⟩)].toArray 28 (0, 0)) :: (p25, Obj.cells ([Value.int .i64 p.first, Value.int .i64 p.days, Value.slice A1 p.lv.length c1, Value.slice A2 p.st.length c2, rowV x.2.2 x.2.1.length]).toArray 61 (0, 0)) :: (p3, Obj.cells [Value.int .i64 0].toArray 36 (0, 0)) :: (p2, Obj.cells [Value.pointer none].toArray 28 (0, 0)) :: rowO 85 x.2.2) (fun z => opE 0 xs = none) (fun z => (b3, Obj.cells [Value.int .i64 4].toArray 3 (0, 0)) :: (b2, Obj.cells [Value.slice A44 xs.length k44].toArray 22 (0, 0)) :: (p9, Obj.cells [Value.int .i64 z.1].toArray 3 (0, 0)) :: (p6, Obj.cells [Value.pointer (some ⟨p25, 0, none⟩)].toArray 28 (0, 0)) :: (p25, Obj.cells ([Value.int .i64 p.first, Value.int .i64 p.days, Value.slice A1 p.lv.length c1, Value.slice A2 p.st.length c2, rowV z.2.2 z.2.1.length]).toArray 61 (0, 0)) :: (p3, Obj.cells [Value.int .i64 11].toArray 36 (0, 0)) :: (p2, Obj.cells [Value.pointer none].toArray 28 (0, 0)) :: rowO 85 z.2.2) rfl (enters_of Tryz.func88 (by kernel_rfl) rfl) ?_ ?_ ?_
    ·intro L D fn tmps w1 rr rd hrr hrd hfh hm1
     refine (c_chunk1 (L := L) (b2 := b2) (b3 := b3) (cp := k44) (A := A44) (xs := xs) (fun x : Int × List Ent × RowS => (L, .loop rr) :: (D, .deferred (some [])) :: (p9, Obj.cells [Value.int .i64 x.1].toArray 3 (0, 0)) :: (p6, Obj.cells [Value.pointer (some ⟨p25, 0, none⟩)].toArray 28 (0, 0)) :: (p25, Obj.cells ([Value.int .i64 p.first, Value.int .i64 p.days, Value.slice A1 p.lv.length c1, Value.slice A2 p.st.length c2, rowV x.2.2 x.2.1.length]).toArray 61 (0, 0)) :: (p3, Obj.cells [Value.int .i64 0].toArray 36 (0, 0)) :: (p2, Obj.cells [Value.pointer none].toArray 28 (0, 0)) :: rowO 85 x.2.2) (fun z : Int × List Ent × RowS => (L, .loop rd) :: (D, .deferred (some [])) :: (p9, Obj.cells [Value.int .i64 z.1].toArray 3 (0, 0)) :: (p6, Obj.cells [Value.pointer (some ⟨p25, 0, none⟩)].toArray 28 (0, 0)) :: (p25, Obj.cells ([Value.int .i64 p.first, Value.int .i64 p.days, Value.slice A1 p.lv.length c1, Value.slice A2 p.st.length c2, rowV z.2.2 z.2.1.length]).toArray 61 (0, 0)) :: (p3, Obj.cells [Value.int .i64 11].toArray 36 (0, 0)) :: (p2, Obj.cells [Value.pointer none].toArray 28 (0, 0)) :: rowO 85 z.2.2) (fun k x => opE 0 xs = (opE x.1 (xs.drop (4 * k))).map (x.2.1 ++ ·) ∧ (0 ≤ x.1 ∧ x.1 ≤ 100000) ∧ x.2.1.length = k ∧ rowOK 4 x.2.2 x.2.1.length (entsC x.2.1) ∧ ∀ y ∈ x.2.1, entOK y) (fun z => opE 0 xs = none) (xs.length / 4) (by omega) hlc44 (by omega) (0, [], none) ⟨by simp, by decide, rfl, rowOK_nil, (fun y hy => by cases hy)⟩ (hm1.perm (List.perm_append_comm_assoc [_, _] [_, _] _)) ?_).mono ?_
     ·rintro k ⟨nx, es, R⟩ w2 hk ⟨hO, hnx, hlk, hR, hok⟩ hm2
      dsimp only at hO hnx hlk hR hok hm2
      subst hrr hrd
      obtain ⟨b44, o44, a, b, c, d, hA44, hD44, hx0, hx1, hx2, hx3, hd0, hd1, hd2, hd3, hdrop⟩ := k_at4 hn44 (k := 4 * k) (by omega)
      have hA4 : A44.map (fun a => a.add (4 * k * 1)) = some ⟨b44, o44 + 4 * k * 1, none⟩ := by rw [hA44, Option.map_some]; simp [Addr.add]
      refine yield_one (m := 1) (hm2.perm (List.perm_append_comm_assoc [_, _] [_] _)) hfh rfl ?_
      refine ri_text (lets_round _) (by kernel_rfl) ?_
      refine x_val rfl rfl rfl (v_assign rfl) ?_
      refine x_end ?_
      
      refine t_k ?_
      refine s_begin rfl ?_
      refine wi_block ?_
      refine wi_seq ?_
      refine ri_draw (lets_round _) (by repeat (first | exact no_round | refine no_then ?_ | refine no_block ?_)) 15 [(true, 0), (true, 1), (true, 2), (true, 3), (true, 4), (true, 5), (true, 6), (true, 7), (true, 8), (true, 9), (true, 10), (true, 11), (true, 12), (true, 13), (false, 14)] (by kernel_rfl) (by kernel_rfl) (by kernel_rfl) ?_
      refine x_val rfl rfl rfl (v_move rfl) ?_
      refine x_val rfl rfl rfl (v_indexAddr (j := 0) Tryz.underlying22 sz3 (congrArg (fun A : Option Addr => some (Value.slice A 4 4)) hA4) rfl (by first | omega | (dsimp only; omega)) rfl) ?_
      refine x_val rfl rfl rfl (v_load Tryz.underlying3 rfl rfl (at_ro (s := (wb44, notOwn ([(p6, Obj.cells [Value.pointer (some ⟨p25, 0, none⟩)].toArray 28 (0, 0)), (p25, Obj.cells ([Value.int .i64 p.first, Value.int .i64 p.days, Value.slice A1 p.lv.length c1, Value.slice A2 p.st.length c2, Value.slice none 0 0]).toArray 61 (0, 0)), (p3, Obj.cells [Value.int .i64 0].toArray 36 (0, 0)), (p2, Obj.cells [Value.pointer none].toArray 28 (0, 0))]))) (by repeat (first | exact List.Mem.head _ | apply List.Mem.tail)) (fun q hq he => by have := hm44.lt hq; omega) (by rw [show o44 + 4 * k * 1 + 0 * 1 = o44 + (4 * k + 0) by omega]; exact hx0))) ?_
      refine x_val rfl rfl rfl (v_move rfl) ?_
      refine x_val rfl rfl rfl (v_indexAddr (j := 1) Tryz.underlying22 sz3 (congrArg (fun A : Option Addr => some (Value.slice A 4 4)) hA4) rfl (by first | omega | (dsimp only; omega)) rfl) ?_
      refine x_val rfl rfl rfl (v_load Tryz.underlying3 rfl rfl (at_ro (s := (wb44, notOwn ([(p6, Obj.cells [Value.pointer (some ⟨p25, 0, none⟩)].toArray 28 (0, 0)), (p25, Obj.cells ([Value.int .i64 p.first, Value.int .i64 p.days, Value.slice A1 p.lv.length c1, Value.slice A2 p.st.length c2, Value.slice none 0 0]).toArray 61 (0, 0)), (p3, Obj.cells [Value.int .i64 0].toArray 36 (0, 0)), (p2, Obj.cells [Value.pointer none].toArray 28 (0, 0))]))) (by repeat (first | exact List.Mem.head _ | apply List.Mem.tail)) (fun q hq he => by have := hm44.lt hq; omega) (by rw [show o44 + 4 * k * 1 + 1 * 1 = o44 + (4 * k + 1) by omega]; exact hx1))) ?_
      refine x_val rfl rfl rfl (v_move rfl) ?_
      refine x_val rfl rfl rfl (v_indexAddr (j := 2) Tryz.underlying22 sz3 (congrArg (fun A : Option Addr => some (Value.slice A 4 4)) hA4) rfl (by first | omega | (dsimp only; omega)) rfl) ?_
      refine x_val rfl rfl rfl (v_load Tryz.underlying3 rfl rfl (at_ro (s := (wb44, notOwn ([(p6, Obj.cells [Value.pointer (some ⟨p25, 0, none⟩)].toArray 28 (0, 0)), (p25, Obj.cells ([Value.int .i64 p.first, Value.int .i64 p.days, Value.slice A1 p.lv.length c1, Value.slice A2 p.st.length c2, Value.slice none 0 0]).toArray 61 (0, 0)), (p3, Obj.cells [Value.int .i64 0].toArray 36 (0, 0)), (p2, Obj.cells [Value.pointer none].toArray 28 (0, 0))]))) (by repeat (first | exact List.Mem.head _ | apply List.Mem.tail)) (fun q hq he => by have := hm44.lt hq; omega) (by rw [show o44 + 4 * k * 1 + 2 * 1 = o44 + (4 * k + 2) by omega]; exact hx2))) ?_
      refine x_bool rfl rfl rfl (v_eql rfl rfl) ?_
      intro b82 hb82
      refine x_val rfl rfl rfl (v_move rfl) ?_
      refine x_val rfl rfl rfl (v_indexAddr (j := 3) Tryz.underlying22 sz3 (congrArg (fun A : Option Addr => some (Value.slice A 4 4)) hA4) rfl (by first | omega | (dsimp only; omega)) rfl) ?_
      refine x_val rfl rfl rfl (v_load Tryz.underlying3 rfl rfl (at_ro (s := (wb44, notOwn ([(p6, Obj.cells [Value.pointer (some ⟨p25, 0, none⟩)].toArray 28 (0, 0)), (p25, Obj.cells ([Value.int .i64 p.first, Value.int .i64 p.days, Value.slice A1 p.lv.length c1, Value.slice A2 p.st.length c2, Value.slice none 0 0]).toArray 61 (0, 0)), (p3, Obj.cells [Value.int .i64 0].toArray 36 (0, 0)), (p2, Obj.cells [Value.pointer none].toArray 28 (0, 0))]))) (by repeat (first | exact List.Mem.head _ | apply List.Mem.tail)) (fun q hq he => by have := hm44.lt hq; omega) (by rw [show o44 + 4 * k * 1 + 3 * 1 = o44 + (4 * k + 3) by omega]; exact hx3))) ?_
      refine x_val rfl rfl rfl (v_buildL (places := [(0, 1), (1, 1), (2, 1), (3, 1)]) Tryz.underlying85 zr85 (by kernel_rfl) rfl rfl) ?_
      refine x_alloc rfl rfl rfl zr85 ?_
      intro p11
      refine x_store0 [] rfl rfl rfl rfl sz85 rfl rfl ?_
      refine x_end ?_
      refine ti_norm ?_
      refine wi_seq ?_
      refine wi_seq ?_
      refine ri_text (lets_round _) (by kernel_rfl) ?_
      refine x_val rfl rfl rfl (v_fieldAddr (off' := 0) Tryz.underlying85 rfl sz3 (by decide) rfl rfl) ?_
      refine x_val rfl rfl rfl (v_load Tryz.underlying3 rfl rfl (by first | exact at_ownL (.head _) rfl | exact at_ownL (.tail _ (.head _)) rfl | exact at_ownL (.tail _ (.tail _ (.head _))) rfl | (apply at_ownL; ((repeat (first | exact List.Mem.head _ | apply List.Mem.tail | apply List.mem_append_right))); rfl) | (refine at_ro (by first | exact .head _ | exact .tail _ (.head _) | exact .tail _ (.tail _ (.head _)) | simp) ?_ (by assumption); trivial))) ?_
      refine x_val rfl rfl rfl (v_load Tryz.underlying3 rfl rfl (at_ownL (vs := [Value.int .i64 nx]) (by repeat (first | exact List.Mem.head _ | apply List.Mem.tail)) rfl)) ?_
      refine x_bool rfl rfl rfl (v_lss rfl rfl) ?_
      intro b90 hb90
      refine x_val rfl rfl rfl (v_move rfl) ?_
      refine x_if [] rfl rfl rfl rfl rfl (fun hg => by obtain ⟨hg0, _⟩ := hg; subst hg0; (try simp only [Qy1, Qy2, gvl_nil, gvl_t, gvl_f]); exact v_fieldAddr (off' := 1) Tryz.underlying85 rfl sz3 (by decide) rfl rfl) ?_
      refine x_if [] rfl rfl rfl rfl rfl (fun hg => by obtain ⟨hg0, _⟩ := hg; subst hg0; (try simp only [Qy1, Qy2, gvl_nil, gvl_t, gvl_f]); exact v_load Tryz.underlying3 rfl rfl (by first | exact at_ownL (.head _) rfl | exact at_ownL (.tail _ (.head _)) rfl | exact at_ownL (.tail _ (.tail _ (.head _))) rfl | (apply at_ownL; ((repeat (first | exact List.Mem.head _ | apply List.Mem.tail | apply List.mem_append_right))); rfl) | (refine at_ro (by first | exact .head _ | exact .tail _ (.head _) | exact .tail _ (.tail _ (.head _)) | simp) ?_ (by assumption); trivial))) ?_
      refine x_if [] rfl rfl rfl rfl rfl (fun hg => by obtain ⟨hg0, _⟩ := hg; subst hg0; (try simp only [Qy1, Qy2, gvl_nil, gvl_t, gvl_f]); exact v_fieldAddr (off' := 0) Tryz.underlying85 rfl sz3 (by decide) rfl rfl) ?_
      refine x_if [] rfl rfl rfl rfl rfl (fun hg => by obtain ⟨hg0, _⟩ := hg; subst hg0; (try simp only [Qy1, Qy2, gvl_nil, gvl_t, gvl_f]); exact v_load Tryz.underlying3 rfl rfl (by first | exact at_ownL (.head _) rfl | exact at_ownL (.tail _ (.head _)) rfl | exact at_ownL (.tail _ (.tail _ (.head _))) rfl | (apply at_ownL; ((repeat (first | exact List.Mem.head _ | apply List.Mem.tail | apply List.mem_append_right))); rfl) | (refine at_ro (by first | exact .head _ | exact .tail _ (.head _) | exact .tail _ (.tail _ (.head _)) | simp) ?_ (by assumption); trivial))) ?_
      refine x_ifb [] rfl rfl rfl rfl rfl (fun hg => by obtain ⟨hg0, _⟩ := hg; subst hg0; (try simp only [Qy1, Qy2, gvl_nil, gvl_t, gvl_f]); exact v_lss rfl rfl) ?_
      intro b96 hb96
      refine x_bool rfl rfl rfl (v_or rfl rfl) ?_
      intro b97 hb97
      refine x_val rfl rfl rfl (v_move rfl) ?_
      refine x_if [] rfl rfl rfl rfl rfl (fun hg => by obtain ⟨hg0, _⟩ := hg; subst hg0; (try simp only [Qy1, Qy2, gvl_nil, gvl_t, gvl_f]); exact v_fieldAddr (off' := 1) Tryz.underlying85 rfl sz3 (by decide) rfl rfl) ?_
      refine x_if [] rfl rfl rfl rfl rfl (fun hg => by obtain ⟨hg0, _⟩ := hg; subst hg0; (try simp only [Qy1, Qy2, gvl_nil, gvl_t, gvl_f]); exact v_load Tryz.underlying3 rfl rfl (by first | exact at_ownL (.head _) rfl | exact at_ownL (.tail _ (.head _)) rfl | exact at_ownL (.tail _ (.tail _ (.head _))) rfl | (apply at_ownL; ((repeat (first | exact List.Mem.head _ | apply List.Mem.tail | apply List.mem_append_right))); rfl) | (refine at_ro (by first | exact .head _ | exact .tail _ (.head _) | exact .tail _ (.tail _ (.head _)) | simp) ?_ (by assumption); trivial))) ?_
      refine x_if [] rfl rfl rfl rfl rfl (fun hg => by obtain ⟨hg0, _⟩ := hg; subst hg0; (try simp only [Qy1, Qy2, gvl_nil, gvl_t, gvl_f]); exact v_fieldAddr (off' := 0) Tryz.underlying85 rfl sz3 (by decide) rfl rfl) ?_
      refine x_if [] rfl rfl rfl rfl rfl (fun hg => by obtain ⟨hg0, _⟩ := hg; subst hg0; (try simp only [Qy1, Qy2, gvl_nil, gvl_t, gvl_f]); exact v_load Tryz.underlying3 rfl rfl (by first | exact at_ownL (.head _) rfl | exact at_ownL (.tail _ (.head _)) rfl | exact at_ownL (.tail _ (.tail _ (.head _))) rfl | (apply at_ownL; ((repeat (first | exact List.Mem.head _ | apply List.Mem.tail | apply List.mem_append_right))); rfl) | (refine at_ro (by first | exact .head _ | exact .tail _ (.head _) | exact .tail _ (.tail _ (.head _)) | simp) ?_ (by assumption); trivial))) ?_
      refine x_if [] rfl rfl rfl rfl rfl (fun hg => by obtain ⟨hg0, _⟩ := hg; subst hg0; (try simp only [Qy1, Qy2, gvl_nil, gvl_t, gvl_f]); have g1 : ¬a < nx ∧ ¬b < a := (by have h9 := hb97.symm; rw [Bool.or_eq_false_iff, hb90, hb96, decide_eq_false_iff_not, decide_eq_false_iff_not] at h9; exact h9); have g2 : b ≤ 9223372036854775807 := hd1.2; exact v_subi rfl rfl rfl (by first | omega | (dsimp only; omega))) ?_
      refine x_ifb [] rfl rfl rfl rfl rfl (fun hg => by obtain ⟨hg0, _⟩ := hg; subst hg0; (try simp only [Qy1, Qy2, gvl_nil, gvl_t, gvl_f]); exact v_geq rfl rfl) ?_
      intro b104 hb104
      refine x_bool rfl rfl rfl (v_or rfl rfl) ?_
      intro b105 hb105
      refine x_val rfl rfl rfl (v_move rfl) ?_
      refine x_if [] rfl rfl rfl rfl rfl (fun hg => by obtain ⟨hg0, _⟩ := hg; subst hg0; (try simp only [Qy1, Qy2, gvl_nil, gvl_t, gvl_f]); exact v_fieldAddr (off' := 1) Tryz.underlying85 rfl sz3 (by decide) rfl rfl) ?_
      refine x_if [] rfl rfl rfl rfl rfl (fun hg => by obtain ⟨hg0, _⟩ := hg; subst hg0; (try simp only [Qy1, Qy2, gvl_nil, gvl_t, gvl_f]); exact v_load Tryz.underlying3 rfl rfl (by first | exact at_ownL (.head _) rfl | exact at_ownL (.tail _ (.head _)) rfl | exact at_ownL (.tail _ (.tail _ (.head _))) rfl | (apply at_ownL; ((repeat (first | exact List.Mem.head _ | apply List.Mem.tail | apply List.mem_append_right))); rfl) | (refine at_ro (by first | exact .head _ | exact .tail _ (.head _) | exact .tail _ (.tail _ (.head _)) | simp) ?_ (by assumption); trivial))) ?_
      refine x_ifb [] rfl rfl rfl rfl rfl (fun hg => by obtain ⟨hg0, _⟩ := hg; subst hg0; (try simp only [Qy1, Qy2, gvl_nil, gvl_t, gvl_f]); exact v_geq rfl rfl) ?_
      intro b109 hb109
      refine x_bool rfl rfl rfl (v_or rfl rfl) ?_
      intro b110 hb110
      refine x_val rfl rfl rfl (v_move rfl) ?_
      refine x_if [] rfl rfl rfl rfl rfl (fun hg => by obtain ⟨hg0, _⟩ := hg; subst hg0; (try simp only [Qy1, Qy2, gvl_nil, gvl_t, gvl_f]); exact v_move rfl) ?_
      refine x_if [] rfl rfl rfl rfl rfl (fun hg => by obtain ⟨hg0, _⟩ := hg; subst hg0; (try simp only [Qy1, Qy2, gvl_nil, gvl_t, gvl_f]); exact v_indexAddr (j := 2) Tryz.underlying22 sz3 (congrArg (fun A : Option Addr => some (Value.slice A 4 4)) hA4) rfl (by first | omega | (dsimp only; omega)) rfl) ?_
      refine x_if [] rfl rfl rfl rfl rfl (fun hg => by obtain ⟨hg0, _⟩ := hg; subst hg0; (try simp only [Qy1, Qy2, gvl_nil, gvl_t, gvl_f]); exact v_load Tryz.underlying3 rfl rfl (at_ro (s := (wb44, notOwn ([(p6, Obj.cells [Value.pointer (some ⟨p25, 0, none⟩)].toArray 28 (0, 0)), (p25, Obj.cells ([Value.int .i64 p.first, Value.int .i64 p.days, Value.slice A1 p.lv.length c1, Value.slice A2 p.st.length c2, Value.slice none 0 0]).toArray 61 (0, 0)), (p3, Obj.cells [Value.int .i64 0].toArray 36 (0, 0)), (p2, Obj.cells [Value.pointer none].toArray 28 (0, 0))]))) (by repeat (first | exact List.Mem.head _ | apply List.Mem.tail)) (fun q hq he => by have := hm44.lt hq; omega) (by rw [show o44 + 4 * k * 1 + 2 * 1 = o44 + (4 * k + 2) by omega]; exact hx2))) ?_
      refine x_ifb [] rfl rfl rfl rfl rfl (fun hg => by obtain ⟨hg0, _⟩ := hg; subst hg0; (try simp only [Qy1, Qy2, gvl_nil, gvl_t, gvl_f]); exact v_lss rfl rfl) ?_
      intro b115 hb115
      refine x_bool rfl rfl rfl (v_or rfl rfl) ?_
      intro b116 hb116
      refine x_val rfl rfl rfl (v_move rfl) ?_
      refine x_if [] rfl rfl rfl rfl rfl (fun hg => by obtain ⟨hg0, _⟩ := hg; subst hg0; (try simp only [Qy1, Qy2, gvl_nil, gvl_t, gvl_f]); exact v_move rfl) ?_
      refine x_if [] rfl rfl rfl rfl rfl (fun hg => by obtain ⟨hg0, _⟩ := hg; subst hg0; (try simp only [Qy1, Qy2, gvl_nil, gvl_t, gvl_f]); exact v_indexAddr (j := 2) Tryz.underlying22 sz3 (congrArg (fun A : Option Addr => some (Value.slice A 4 4)) hA4) rfl (by first | omega | (dsimp only; omega)) rfl) ?_
      refine x_if [] rfl rfl rfl rfl rfl (fun hg => by obtain ⟨hg0, _⟩ := hg; subst hg0; (try simp only [Qy1, Qy2, gvl_nil, gvl_t, gvl_f]); exact v_load Tryz.underlying3 rfl rfl (at_ro (s := (wb44, notOwn ([(p6, Obj.cells [Value.pointer (some ⟨p25, 0, none⟩)].toArray 28 (0, 0)), (p25, Obj.cells ([Value.int .i64 p.first, Value.int .i64 p.days, Value.slice A1 p.lv.length c1, Value.slice A2 p.st.length c2, Value.slice none 0 0]).toArray 61 (0, 0)), (p3, Obj.cells [Value.int .i64 0].toArray 36 (0, 0)), (p2, Obj.cells [Value.pointer none].toArray 28 (0, 0))]))) (by repeat (first | exact List.Mem.head _ | apply List.Mem.tail)) (fun q hq he => by have := hm44.lt hq; omega) (by rw [show o44 + 4 * k * 1 + 2 * 1 = o44 + (4 * k + 2) by omega]; exact hx2))) ?_
      refine x_ifb [] rfl rfl rfl rfl rfl (fun hg => by obtain ⟨hg0, _⟩ := hg; subst hg0; (try simp only [Qy1, Qy2, gvl_nil, gvl_t, gvl_f]); exact v_gtr rfl rfl) ?_
      intro b121 hb121
      refine x_bool rfl rfl rfl (v_or rfl rfl) ?_
      intro b122 hb122
      refine x_val rfl rfl rfl (v_move rfl) ?_
      refine x_if [] rfl rfl rfl rfl rfl (fun hg => by obtain ⟨hg0, _⟩ := hg; subst hg0; (try simp only [Qy1, Qy2, gvl_nil, gvl_t, gvl_f]); exact v_fieldAddr (off' := 3) Tryz.underlying85 rfl sz3 (by decide) rfl rfl) ?_
      refine x_if [] rfl rfl rfl rfl rfl (fun hg => by obtain ⟨hg0, _⟩ := hg; subst hg0; (try simp only [Qy1, Qy2, gvl_nil, gvl_t, gvl_f]); exact v_load Tryz.underlying3 rfl rfl (by first | exact at_ownL (.head _) rfl | exact at_ownL (.tail _ (.head _)) rfl | exact at_ownL (.tail _ (.tail _ (.head _))) rfl | (apply at_ownL; ((repeat (first | exact List.Mem.head _ | apply List.Mem.tail | apply List.mem_append_right))); rfl) | (refine at_ro (by first | exact .head _ | exact .tail _ (.head _) | exact .tail _ (.tail _ (.head _)) | simp) ?_ (by assumption); trivial))) ?_
      refine x_call_ifb [] rfl rfl rfl rfl rfl Tryz.func40 (by kernel_rfl) (fun hg => by obtain ⟨hg0, _⟩ := hg; subst hg0; (try simp only [Qy1, Qy2, gvl_nil, gvl_t, gvl_f]); refine ⟨_, rfl, ?_⟩; exact fun w1 hw1 => c_isDay d w1 hd3 (hL.later (hw1.base (by simp)))) ?_
      intro b126 hb126
      refine x_ifb [] rfl rfl rfl rfl rfl (fun hg => by obtain ⟨hg0, _⟩ := hg; subst hg0; (try simp only [Qy1, Qy2, gvl_nil, gvl_t, gvl_f]); exact v_not rfl) ?_
      intro b127 hb127
      refine x_bool rfl rfl rfl (v_or rfl rfl) ?_
      intro b128 hb128
      refine x_end ?_
      refine ti_norm ?_
      refine wi_cond rfl (fun hc128 => ?_) (fun hc128 => ?_)
      ·simp only [hb128, hb127, hb126, hb122, hb121, hb116, hb115, hb110, hb109, hb105, hb104, hb97, hb96, hb90, Qz1, Qz2, Qz3, Qz4, Qz5, Qz6, Qz7, Qz8, Qz9, Qz0] at hc128
       have hN : ¬entB nx a b c d := by
        rintro ⟨q1, q2, q3, q4, q5, q6⟩
        rcases hc128 with (((((h | h) | h) | h) | h) | h) | h
        all_goals first | omega | exact h q6
       refine wi_seq ?_
       refine ri_text (lets_round _) (by kernel_rfl) ?_
       refine x_store (cs := [Value.pointer none]) (off := 0) (e := 28) (l2 := rowO 85 R) [(p11, Obj.cells [Value.int .i64 a, Value.int .i64 b, Value.bool b82, Value.int .i64 d].toArray 85 (0, 0)), (L, _), (b3, _), (b2, _), (D, _), (p9, Obj.cells [Value.int .i64 nx].toArray 3 (0, 0)), (p6, Obj.cells [Value.pointer (some ⟨p25, 0, none⟩)].toArray 28 (0, 0)), (p25, Obj.cells ([Value.int .i64 p.first, Value.int .i64 p.days, Value.slice A1 p.lv.length c1, Value.slice A2 p.st.length c2, rowV R es.length]).toArray 61 (0, 0)), (p3, Obj.cells [Value.int .i64 0].toArray 36 (0, 0))] rfl rfl rfl rfl sz28 rfl (by show 1 ≤ 1; decide) ?_
       refine x_store (cs := [Value.int .i64 0]) (off := 0) (e := 36) (l2 := (p2, Obj.cells [Value.pointer none].toArray 28 (0, 0)) :: rowO 85 R) [(p11, Obj.cells [Value.int .i64 a, Value.int .i64 b, Value.bool b82, Value.int .i64 d].toArray 85 (0, 0)), (L, _), (b3, _), (b2, _), (D, _), (p9, Obj.cells [Value.int .i64 nx].toArray 3 (0, 0)), (p6, Obj.cells [Value.pointer (some ⟨p25, 0, none⟩)].toArray 28 (0, 0)), (p25, Obj.cells ([Value.int .i64 p.first, Value.int .i64 p.days, Value.slice A1 p.lv.length c1, Value.slice A2 p.st.length c2, rowV R es.length]).toArray 61 (0, 0))] rfl rfl rfl rfl sz36 rfl (by show 1 ≤ 1; decide) ?_
       refine x_end ?_
       refine ti_norm ?_
       refine wi_ret ?_
       refine t_ret ?_
       refine b_ret ?_
       refine s_less (List.sublist_cons_self _ _) ?_
       refine s_roundR (fun w' hm => ⟨.inr (nx, es, R), rfl, ?_, hm.perm (List.perm_append_comm_assoc [_] [_, _] _)⟩)
       show opE 0 xs = none
       rw [hO, hdrop, opE, if_neg hN]; rfl
      ·simp only [hb128, hb127, hb126, hb122, hb121, hb116, hb115, hb110, hb109, hb105, hb104, hb97, hb96, hb90, Qz1, Qz2, Qz3, Qz4, Qz5, Qz6, Qz7, Qz8, Qz9, Qz0] at hc128
       have hY : entB nx a b c d := by
        obtain ⟨⟨⟨⟨⟨⟨h1, h2⟩, h3⟩, h4⟩, h5⟩, h6⟩, h7⟩ := hc128
        exact ⟨by omega, by omega, by omega, by omega, by omega, h7⟩
       refine wi_skip ?_
       refine ti_norm ?_
       refine wi_seq ?_
       refine ri_text (lets_round _) (by kernel_rfl) ?_
       refine x_val rfl rfl rfl (v_fieldAddr (off' := 1) Tryz.underlying85 rfl sz3 (by decide) rfl rfl) ?_
       refine x_val rfl rfl rfl (v_load Tryz.underlying3 rfl rfl (by first | exact at_ownL (.head _) rfl | exact at_ownL (.tail _ (.head _)) rfl | exact at_ownL (.tail _ (.tail _ (.head _))) rfl | (apply at_ownL; ((repeat (first | exact List.Mem.head _ | apply List.Mem.tail | apply List.mem_append_right))); rfl) | (refine at_ro (by first | exact .head _ | exact .tail _ (.head _) | exact .tail _ (.tail _ (.head _)) | simp) ?_ (by assumption); trivial))) ?_
       refine x_val rfl rfl rfl (v_addi (c := b + 1) rfl rfl rfl (by have := hY.2.2.2.1; have := hY.2.1; have := hY.1; omega)) ?_
       refine x_store (cs := [Value.int .i64 nx]) (off := 0) (e := 3) (l2 := (p6, Obj.cells [Value.pointer (some ⟨p25, 0, none⟩)].toArray 28 (0, 0)) :: (p25, Obj.cells ([Value.int .i64 p.first, Value.int .i64 p.days, Value.slice A1 p.lv.length c1, Value.slice A2 p.st.length c2, rowV R es.length]).toArray 61 (0, 0)) :: (p3, Obj.cells [Value.int .i64 0].toArray 36 (0, 0)) :: (p2, Obj.cells [Value.pointer none].toArray 28 (0, 0)) :: rowO 85 R) [(p11, Obj.cells [Value.int .i64 a, Value.int .i64 b, Value.bool b82, Value.int .i64 d].toArray 85 (0, 0)), (L, _), (b3, _), (b2, _), (D, _)] rfl rfl rfl rfl sz3 rfl (by show 1 ≤ 1; decide) ?_
       refine x_end ?_
       refine ti_norm ?_
       refine ri_inv (lets_round _) (by repeat (first | exact no_round | refine no_then ?_ | refine no_block ?_)) ([(p11, Obj.cells [Value.int .i64 a, Value.int .i64 b, Value.bool b82, Value.int .i64 d].toArray 85 (0, 0)), (p6, Obj.cells [Value.pointer (some ⟨p25, 0, none⟩)].toArray 28 (0, 0)), (p25, Obj.cells ([Value.int .i64 p.first, Value.int .i64 p.days, Value.slice A1 p.lv.length c1, Value.slice A2 p.st.length c2, rowV R es.length]).toArray 61 (0, 0))]) 10 (.flt 0 (.flt 1 (.flt 2 (.flt 3 (.flt 4 (.flt 5 (.gr 6 (.gr 7 (.flt 8 (.flt 9 .done)) .nil) .nil))))))) (by repeat (first | exact List.nil_sublist _ | apply List.Sublist.cons_cons | apply List.Sublist.cons)) (by kernel_rfl) (by kernel_rfl) (by kernel_rfl) ?_
       refine j_val rfl rfl (v_load Tryz.underlying28 rfl rfl (at_ownL (vs := [Value.pointer (some ⟨p25, 0, none⟩)]) (by repeat (first | exact List.Mem.head _ | apply List.Mem.tail)) rfl)) ?_
       refine j_val rfl rfl (v_load Tryz.underlying28 rfl rfl (at_ownL (vs := [Value.pointer (some ⟨p25, 0, none⟩)]) (by repeat (first | exact List.Mem.head _ | apply List.Mem.tail)) rfl)) ?_
       refine j_val rfl rfl (v_nilCheck rfl) ?_
       refine j_val rfl rfl (v_fieldAddr Tryz.underlying61 rfl sz59 (by decide) rfl rfl) ?_
       refine j_val rfl rfl (v_load Tryz.underlying59 rfl rfl (at_ownL (vs := [Value.int .i64 p.first, Value.int .i64 p.days, Value.slice A1 p.lv.length c1, Value.slice A2 p.st.length c2, rowV R es.length]) (by repeat (first | exact List.Mem.head _ | apply List.Mem.tail)) rfl)) ?_
       refine j_val rfl rfl (v_load_blk Tryz.underlying85 rfl rfl (by first | exact .head _ | exact .tail _ (.head _) | exact .tail _ (.tail _ (.head _)) | (repeat (first | exact List.Mem.head _ | apply List.Mem.tail | apply List.mem_append_right))) (by exact sz85)) ?_
       refine j_gr ?_ j_nil
       refine x_buildSliceL rfl rfl rfl Tryz.underlying59 sz85 zr85 rfl rfl rfl ?_
       intro p138
       refine x_end ?_
       refine j_end (by repeat (first | exact List.nil_sublist _ | apply List.Sublist.cons_cons | apply List.Sublist.cons)) ?_
       refine j_gr ?_ j_nil
       refine x_append (e := 85) [(p138, Obj.cells [Value.int .i64 a, Value.int .i64 b, Value.bool b82, Value.int .i64 d].toArray 85 (0, 0)), (p11, Obj.cells [Value.int .i64 a, Value.int .i64 b, Value.bool b82, Value.int .i64 d].toArray 85 (0, 0)), (L, _), (b3, _), (b2, _), (D, _), (p9, Obj.cells [Value.int .i64 (b + 1)].toArray 3 (0, 0)), (p6, Obj.cells [Value.pointer (some ⟨p25, 0, none⟩)].toArray 28 (0, 0)), (p25, Obj.cells ([Value.int .i64 p.first, Value.int .i64 p.days, Value.slice A1 p.lv.length c1, Value.slice A2 p.st.length c2, rowV R es.length]).toArray 61 (0, 0)), (p3, Obj.cells [Value.int .i64 0].toArray 36 (0, 0)), (p2, Obj.cells [Value.pointer none].toArray 28 (0, 0))] (l2 := []) R (len := es.length) (xs := entsC es) rfl rfl rfl rfl (by simp only [List.append_nil]; rfl) hR Tryz.underlying59 ap85 rfl rfl (m := 1) (news := entC ⟨a, b, b82, d⟩) (fun j hj => at_ownL (vs := entC ⟨a, b, b82, d⟩) (.head _) (by rw [Nat.zero_add]; exact List.getElem?_eq_getElem hj)) rfl (by simp only [maxLen]; omega) (by omega) ?_
       intro R' hR'
       rw [List.append_nil]
       refine x_end ?_
       refine j_end (by repeat (first | exact List.nil_sublist _ | apply List.Sublist.cons_cons | apply List.Sublist.cons)) ?_
       refine j_val rfl rfl (v_nilCheck rfl) ?_
       refine j_val rfl rfl (v_fieldAddr Tryz.underlying61 rfl sz59 (by decide) rfl rfl) ?_
       refine j_done ?_
       refine x_store (cs := [Value.int .i64 p.first, Value.int .i64 p.days, Value.slice A1 p.lv.length c1, Value.slice A2 p.st.length c2, rowV R es.length]) (off := 4) (e := 61) (l2 := (p3, Obj.cells [Value.int .i64 0].toArray 36 (0, 0)) :: (p2, Obj.cells [Value.pointer none].toArray 28 (0, 0)) :: rowO 85 R') [(p138, Obj.cells [Value.int .i64 a, Value.int .i64 b, Value.bool b82, Value.int .i64 d].toArray 85 (0, 0)), (p11, Obj.cells [Value.int .i64 a, Value.int .i64 b, Value.bool b82, Value.int .i64 d].toArray 85 (0, 0)), (L, _), (b3, _), (b2, _), (D, _), (p9, Obj.cells [Value.int .i64 (b + 1)].toArray 3 (0, 0)), (p6, Obj.cells [Value.pointer (some ⟨p25, 0, none⟩)].toArray 28 (0, 0))] rfl rfl rfl rfl sz59 rfl (by show 4 + 1 ≤ 5; decide) ?_
       refine x_end ?_
       refine b_norm ?_
       refine s_less ((List.sublist_cons_self _ _).trans (List.sublist_cons_self _ _)) ?_
       have e1 : (es ++ [(⟨a, b, b82, d⟩ : Ent)]).length = es.length + 1 := by simp
       refine s_round (fun w' hm => ⟨.inl (b + 1, es ++ [⟨a, b, b82, d⟩], R'), rfl, ?_, ?_⟩)
       ·show opE 0 xs = (opE (b + 1) (xs.drop (4 * (k + 1)))).map ((es ++ [(⟨a, b, b82, d⟩ : Ent)]) ++ ·) ∧ (0 ≤ b + 1 ∧ b + 1 ≤ 100000) ∧ (es ++ [(⟨a, b, b82, d⟩ : Ent)]).length = k + 1 ∧ rowOK 4 R' (es ++ [(⟨a, b, b82, d⟩ : Ent)]).length (entsC (es ++ [(⟨a, b, b82, d⟩ : Ent)])) ∧ ∀ y ∈ es ++ [(⟨a, b, b82, d⟩ : Ent)], entOK y
        obtain ⟨y1, y2, y3, y4, y5, y6⟩ := hY
        refine ⟨?_, ⟨by omega, by omega⟩, by rw [e1, hlk], by rw [e1, entsC_app]; simpa [entsC] using hR', fun y hy => ?_⟩
        ·rw [hO, hdrop, opE, if_pos ⟨y1, y2, y3, y4, y5, y6⟩, show 4 * (k + 1) = 4 * k + 4 by omega, hb82, Option.map_map]
         congr 1
         funext l
         simp
        ·rcases List.mem_append.1 hy with hy | hy
         ·exact hok y hy
         ·rw [List.mem_singleton.1 hy]; exact ⟨by show 0 ≤ a; omega, y2, y4, y3, y6⟩
       ·have hm2 := hm.perm (List.perm_append_comm_assoc [_] [_, _] _)
        rw [← e1] at hm2
        exact hm2
     ·rintro e w2 ⟨h1, ⟨x, h2, h3⟩ | ⟨z, h2, h3⟩⟩
      ·exact ⟨h1, .inl ⟨x, h2, h3.perm (List.perm_append_comm_assoc [_, _] [_, _] _)⟩⟩
      ·exact ⟨h1, .inr ⟨z, h2, h3.perm (List.perm_append_comm_assoc [_, _] [_, _] _)⟩⟩
    ·rintro D ⟨nx, es, R⟩ ⟨hO, hnx, hlk, hR, hok⟩
     dsimp only at hO hnx hlk hR hok ⊢
     have hF : openG readQ s = some (p, es) := by
      rw [hG, hO, List.drop_eq_nil_of_le (by omega)]
      show (((opE nx []).map (es ++ ·)).map fun es => (p, es)) = _
      simp [opE]
     refine sd_block ?_
     refine sd_then ?_
     refine sd_seq ?_
     refine sd_region ?_
     refine sdl_val rfl (v_load Tryz.underlying28 rfl rfl (at_ownL (vs := [Value.pointer (some ⟨p25, 0, none⟩)]) (by repeat (first | exact List.Mem.head _ | apply List.Mem.tail)) rfl)) ?_
     refine sdl_store (cs := [Value.pointer none]) (off := 0) (e := 28) (l2 := rowO 85 R) [(D, _), (b3, _), (b2, _), (p9, Obj.cells [Value.int .i64 nx].toArray 3 (0, 0)), (p6, Obj.cells [Value.pointer (some ⟨p25, 0, none⟩)].toArray 28 (0, 0)), (p25, Obj.cells ([Value.int .i64 p.first, Value.int .i64 p.days, Value.slice A1 p.lv.length c1, Value.slice A2 p.st.length c2, rowV R es.length]).toArray 61 (0, 0)), (p3, Obj.cells [Value.int .i64 0].toArray 36 (0, 0))] rfl rfl rfl sz28 rfl (by show 1 ≤ 1; decide) ?_
     refine sdl_store (cs := [Value.int .i64 0]) (off := 0) (e := 36) (l2 := (p2, _) :: rowO 85 R) [(D, _), (b3, _), (b2, _), (p9, Obj.cells [Value.int .i64 nx].toArray 3 (0, 0)), (p6, Obj.cells [Value.pointer (some ⟨p25, 0, none⟩)].toArray 28 (0, 0)), (p25, Obj.cells ([Value.int .i64 p.first, Value.int .i64 p.days, Value.slice A1 p.lv.length c1, Value.slice A2 p.st.length c2, rowV R es.length]).toArray 61 (0, 0))] rfl rfl rfl sz36 rfl (by show 1 ≤ 1; decide) ?_
     refine sdl_end ?_
     refine sd_then ?_
     refine sd_ret ?_
     refine ret2M (m := 2) (b := p2) (b2 := p3) (v := .pointer (some ⟨p25, 0, none⟩)) (v2 := Value.int .i64 0) rfl rfl rfl Tryz.underlying28 rfl Tryz.underlying36 rfl (at_ownL (vs := [Value.pointer (some ⟨p25, 0, none⟩)]) (by repeat (first | exact List.Mem.head _ | apply List.Mem.tail)) rfl) (at_ownL (vs := [Value.int .i64 0]) (by repeat (first | exact List.Mem.head _ | apply List.Mem.tail)) rfl) (fun w' hm => ⟨_, by rw [hF]; rfl, hm.base (by simp), ?_⟩)
     rw [hF]
     obtain ⟨g1, g2, g3, g4⟩ := patRd.keep hpr (Kept.out hm (by repeat (first | exact List.Mem.head _ | apply List.Mem.tail)))
     exact ⟨p25, _, _, _, rfl, hm.apart (p25, _) (by repeat (first | exact List.Mem.head _ | apply List.Mem.tail)) (w, fun _ => True) (by repeat (first | exact List.Mem.head _ | apply List.Mem.tail)) trivial, fun j hj => by
      rw [hm.cell_own (b := p25) (by repeat (first | exact List.Mem.head _ | apply List.Mem.tail)) j, List.getElem?_toArray]; exact List.getElem?_eq_getElem hj, g3, g4, g1, g2, ents_rd (e := 85) hR rfl (fun x hx => (hok x hx).in) hm (fun q hq => by simp [hq]) (fun q hq => hm.apart q (by simp [hq]) (w, fun _ => True) (by repeat (first | exact List.Mem.head _ | apply List.Mem.tail)) trivial)⟩
    ·rintro D ⟨nx, es, R⟩ hJ
     dsimp only at hJ ⊢
     have hF : openG readQ s = none := by rw [hG, hJ]; rfl
     refine ret2M (m := 2) (b := p2) (b2 := p3) (v := .pointer none) (v2 := Value.int .i64 11) rfl rfl rfl Tryz.underlying28 rfl Tryz.underlying36 rfl (at_ownL (vs := [Value.pointer none]) (by repeat (first | exact List.Mem.head _ | apply List.Mem.tail)) rfl) (at_ownL (vs := [Value.int .i64 11]) (by repeat (first | exact List.Mem.head _ | apply List.Mem.tail)) rfl) (fun w' hm => ⟨_, by rw [hF]; rfl, hm.base (by simp), by rw [hF]; exact rfl⟩)

end Go.Proofs.YtaniaihoodgmpaaGreatDoor

namespace Go.Proofs.YtaniaihoodgmpaaGreatDoor
open Go.RowKit Go.PK
set_option linter.unusedVariables false
set_option linter.unusedSimpArgs false
attribute [local irreducible] WX
/-- The least number that may come next. -/
def nxE (es : List Ent) : Int := match es.getLast? with | none => 0 | some x => x.to + 1
end Go.Proofs.YtaniaihoodgmpaaGreatDoor
