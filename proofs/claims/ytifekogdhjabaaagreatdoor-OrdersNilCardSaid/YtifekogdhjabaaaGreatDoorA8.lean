/- Of the proofs of YtifekogdhjabaaaGreatDoor: Zb Zc Ze Zf Keys Zg Zh Zi Zj Zk Zl Xx Xy, put together. -/
import Derived.Test.YtifekogdhjabaaaGreatDoorA7
import Derived.Test.YtifekogdhjabaaaGreatDoorA2
import Derived.Shelf.SlGeneric
import Derived.Shelf.SlIterI.Nil
import Derived.Shelf.SortM.Plain
import Derived.Shelf.SortM.SortNone
import Derived.Ground.GgzProg
import Derived.Ground.SlgmProg
import Derived.Test.YtifekogdhjabaaaGreatDoorProg
import Derived.Shelf.SlIterI.Sorted
import Derived.Test.YtifekogdhjabaaaGreatDoorA5
import Derived.Lay
import Derived.LaidSub
import Derived.Lib.LaidTab
import Derived.Stop.LaidErr
import Derived.Deep.DeepHandedRow
import Derived.SevenTiedAt
import Derived.Test.YtifekogdhjabaaaGreatDoorA1
import Derived.Test.YtifekogdhjabaaaGreatDoorA3
import Derived.Test.YtifekogdhjabaaaGreatDoorA4
import Derived.Test.YtifekogdhjabaaaGreatDoorA6
set_option linter.unusedVariables false
set_option linter.unusedSimpArgs false
set_option maxRecDepth 100000

namespace Go.Proofs.YtifekogdhjabaaaGreatDoor
open Go.RowKit Go.PK
theorem rd_in {D : Nat → Prop} {w : World} {A : Option Addr} {l c : Nat} {xs : List Int} (h : sliceRd tyI D w (.slice A l c) xs) : ∀ d ∈ xs, in64 d := fun d hd => by
 obtain ⟨j, hj, rfl⟩ := List.getElem_of_mem hd
 obtain ⟨_, _, _, _, _, h1⟩ := int_at h hj
 exact h1
theorem c_Sgn (n : Int) (w : World) (h : in64 n) :
  Calls Tryz.prog 121 #[.int .i64 n] w fun e w' => e = .returned (.int .u64 (sgn n : Nat)) ∧ Later w w' := by
 refine enter (vs := [.int .i64 n]) Tryz.func121 rfl Tryz.ntmps121 rfl ?_
 refine Zs (Zr ?_)
 refine Xa ?_
 refine Ze (Zt (Zs (Zr ?_)))
 refine Xm ?_
 refine Xv rfl (v_conv u3 u151 rfl) ?_
 refine Xv (v := Value.int .u64 (IntKind.u64.wrap (IntKind.u64.wrap n * 2))) rfl (v_shl rfl rfl (by decide) rfl) ?_
 refine Xm ?_
 refine Xv (v := Value.int .i64 (n / 9223372036854775808)) rfl (v_shr rfl rfl (by decide) rfl) ?_
 refine Xv rfl (v_conv u3 u151 rfl) ?_
 refine Xv (v := Value.int .u64 (sgn n : Nat)) rfl (by rw [← xor_sgn h]; exact v_xorK rfl rfl) ?_
 refine Xa ?_
 refine Ze (Zt (w_ret ?_))
 refine ret1 rfl rfl (fun w' hm => ⟨?_, hm.base (by simp)⟩)
 rfl
theorem c_Ints {D : Nat → Prop} {v : Value} {l : List Int} (w : World) (h : sliceRd tyI D w v l) (hll : l.length ≤ 1000000) :
  Calls Tryz.prog 64 #[v] w fun e w' => e = .returned (.string ⟨(intsG l).toArray⟩) ∧ Later w w' := by
 obtain ⟨A0, c0, rfl, hlc, hmx, -⟩ := id h
 have hin : ∀ n ∈ l, -9223372036854775808 ≤ n ∧ n ≤ 9223372036854775807 := rd_in h
 refine enter (vs := [Value.slice A0 l.length c0]) Tryz.func64 rfl Tryz.ntmps64 rfl ?_
 refine Zs (Zr ?_)
 refine Xa ?_
 refine Ze (Zt (Zs (Zr ?_)))
 refine x_alloc rfl rfl rfl zr173 ?_
 intro p3
 refine Ze (Zt (Zs (Zr ?_)))
 refine Xm ?_
 refine Xv rfl (v_len_slice u44 rfl) ?_
 refine Xv rfl (v_convE (c := ((l.length : Nat) : Int)) u3 u151 rfl (u64_wrap (by omega))) ?_
 refine x_callv (v := Value.string ⟨(numG (l.length)).toArray⟩) rfl rfl rfl Tryz.func120 Zk rfl (fun w1 hw1 => c_Num _ w1 (by omega)) ?_
 refine x_turnf (τ := RowS) (v := .tuple #[.int .i64 ((numG l.length).length : Nat), .nilIface]) (fun r' => rowOK 1 r' ([] ++ numG l.length).length (byC ([] ++ numG l.length))) (fun r' => (bld2 173 5 p3 (.pointer (some ⟨p3, 0, none⟩)) r' (([] ++ numG l.length).length)) ++ []) rfl rfl Tryz.func119 Zk rfl (fun w1 hw1 => by
  have h := c_WS (l2 := []) (bs := []) (r := none) (pp := (.pointer none)) w1 (hw1.to (by first | rfl | simp [bld2, rowO])) (p := p3) (.inl rfl) ⟨(numG l.length).toArray⟩ rowOK_nil (by have := numG_ten (n := l.length) (by omega); (try show (0 : Nat) ≤ 4000000000000); omega) (by rw [mk_size]; have := numG_ten (n := l.length) (by omega); (try show (0 : Nat) ≤ 4000000000000); omega)
  rw [bl_mk, mk_size] at h
  exact h.mono fun e w2 ⟨h1, r', h2, h3⟩ => ⟨h1, r', h2, h3⟩) ?_
 intro r10 hr10
 rw [List.nil_append] at hr10
 refine Ze (Zt (Zs (Zs (Zr ?_))))
 refine Xm ?_
 refine Xv rfl (v_len_slice u44 rfl) ?_
 refine Xm ?_
 refine Ze (Zt (w_block ?_))
 refine w_loop (σ := Nat × RowS) (fun x => x.1 ≤ l.length ∧ rowOK 1 x.2 (intsT l x.1).length (byC (intsT l x.1))) (fun x => [(3, Value.pointer (some ⟨p3, 0, none⟩)), (11, Value.slice A0 l.length c0), (12, Value.int .i64 (l.length : Nat)), (13, Value.int .i64 (x.1 : Nat))]) (fun x => (bld2 173 5 p3 (.pointer (some ⟨p3, 0, none⟩)) x.2 ((intsT l x.1).length)) ++ []) (fun x => [(w, fun _ => True)]) (fun x => l.length - x.1) ((0, r10)) (⟨Nat.zero_le _, by dsimp only; rw [intsT_zero]; exact hr10⟩) (l_start Zu (fun _ h => by rw [intsT_zero]; exact h)) ?_
 rintro ⟨k, r⟩ ⟨hk, hr⟩
 refine w_state ([(3, Value.pointer (some ⟨p3, 0, none⟩)), (11, Value.slice A0 l.length c0), (12, Value.int .i64 (l.length : Nat)), (13, Value.int .i64 (k : Nat))]) ((bld2 173 5 p3 (.pointer (some ⟨p3, 0, none⟩)) r ((intsT l k).length)) ++ []) ([(w, fun _ => True)]) ?_
 dsimp only at hk hr
 refine Zs (Zr ?_)
 refine Xb rfl (v_lss rfl rfl) fun b14 hb14 => ?_
 refine Ze (Zt (Zs ?_))
 refine w_cond rfl (fun hc14 => ?_) (fun hc14 => ?_)
 ·simp only [hb14, Qz, ne_eq] at hc14
  have hkl : k < l.length := by omega
  obtain ⟨b0, o0, hA0, _, hc0, hk9⟩ := int_at h hkl
  have hz := intsT_len (by omega) hin k (by omega)
  have hz2 := numG_ten (sgn_lt hk9)
  refine w_skip (Zt (Zs (w_block (Zs (Zr ?_)))))
  refine Xv rfl (v_indexAddr u44 sz3 (congrArg (fun A => some (Value.slice A l.length c0)) hA0) rfl Zo rfl) ?_
  refine Xv rfl (v_load u3 rfl rfl (at_ro (.head _) trivial (by rw [Nat.mul_one]; exact hc0))) ?_
  refine Xa ?_
  refine Ze (Zt (Zr ?_))
  refine Xm ?_
  refine x_callv (v := Value.int .u64 ((sgn l[k] : Nat) : Int)) rfl rfl rfl Tryz.func121 Zk rfl (fun w1 hw1 => c_Sgn _ w1 hk9) ?_
  refine x_callv (v := Value.string ⟨(numG (sgn l[k])).toArray⟩) rfl rfl rfl Tryz.func120 Zk rfl (fun w1 hw1 => c_Num _ w1 (sgn_lt hk9)) ?_
  refine x_turnf (τ := RowS) (v := .tuple #[.int .i64 ((numG (sgn l[k])).length : Nat), .nilIface]) (fun r' => rowOK 1 r' ((intsT l k) ++ numG (sgn l[k])).length (byC ((intsT l k) ++ numG (sgn l[k])))) (fun r' => (bld2 173 5 p3 (.pointer (some ⟨p3, 0, none⟩)) r' (((intsT l k) ++ numG (sgn l[k])).length)) ++ []) rfl rfl Tryz.func119 Zk rfl (fun w1 hw1 => by
   have h := c_WS (l2 := []) (bs := (intsT l k)) (r := r) (pp := (.pointer (some ⟨p3, 0, none⟩))) w1 (hw1.to (by first | rfl | simp [bld2, rowO])) (p := p3) (.inr rfl) ⟨(numG (sgn l[k])).toArray⟩ hr (by omega) (by rw [mk_size]; omega)
   rw [bl_mk, mk_size] at h
   exact h.mono fun e w2 ⟨h1, r', h2, h3⟩ => ⟨h1, r', h2, h3⟩) ?_
  intro r20 hr20
  refine Ze (b_norm (Zt (Zr ?_)))
  refine Xv rfl (v_addi rfl rfl rfl Zo) ?_
  refine Xm ?_
  refine Ze ?_
  exact l_norm (x := (k, r)) (μ := fun q : Nat × RowS => l.length - q.1) (k + 1, r20) ⟨by dsimp only; omega, by dsimp only; rw [intsT_succ hkl]; exact hr20⟩ (by simp only; omega) Zu (fun _ h => by rw [intsT_succ hkl]; exact h)
 simp only [hb14, Qz, ne_eq] at hc14
 refine w_exit ?_
 refine t_exit ?_
 refine t_exit ?_
 refine b_hit ?_
 refine Zt (Zs (Zr ?_))
 obtain rfl : k = l.length := by omega
 rw [intsT_all] at hr
 refine x_turnf (τ := Unit) (v := .string ⟨(intsG l).toArray⟩) (fun _ => True) (fun _ => []) rfl rfl Tryz.func122 Zk rfl (fun w1 hw1 => (c_BS (l2 := []) (bs := intsG l) w1 (hw1.to (by rw [intsT_all])) (p := p3) (.inr rfl) hr (B := w.heap.size) (fun q hq => by rw [List.mem_singleton.1 hq]; exact Nat.le_refl _) (fun q hq => by cases hq) (fun q hq => hw1.newer (by simp) (by rw [intsT_all]; exact List.mem_append_left _ hq)) (hw1.base (by simp)).size).mono fun e w2 h => ⟨h.1, (), trivial, h.2⟩) fun _ _ => ?_
 refine Xa ?_
 refine Ze (Zt (w_ret ?_))
 refine ret1 rfl rfl (fun w' hm => ⟨?_, hm.base (by simp)⟩)
 rfl
open Go.RowKit Go.PK
theorem ap3 : (Tryz.prog.info? 3).map (fun j => (j.zero, j.size, j.bytes)) = some (some (.int .i64 0), 1, 8) := by kernel_rfl
attribute [local irreducible] WX
end Go.Proofs.YtifekogdhjabaaaGreatDoor

namespace Go.Proofs.YtifekogdhjabaaaGreatDoor
open Go.RowKit Go.PK
theorem g_post_encN {w : World} {own : List (Nat × Obj)} {ro : List Snap} {id : Int} (hm : Mem w own ro) (n : Int) :
  Calls Tryz.prog 105 #[.pointer none, .int .i64 id, .int .i64 n, .agg #[.func (.func 81) #[] #[], .func (.func 106) #[] #[]]] w fun e w' => e = .returned (.int .i64 1) ∧ Mem w' own ro := by
 refine enter_in hm (vs := [.pointer none, .int .i64 id, .int .i64 n, .agg #[.func (.func 81) #[] #[], .func (.func 106) #[] #[]]]) Tryz.func105 rfl Tryz.ntmps105 rfl ?_
 refine Zs (Zr ?_)
 refine x_box rfl rfl rfl rfl ?_
 intro p7
 refine Xa ?_
 refine Ze (Zt (Zs (Zs (Zr ?_))))
 refine Xm ?_
 refine Xv (v := Value.bool true) rfl (v_pnil (o := none) u35 rfl rfl) ?_
 refine Ze (Zt ?_)
 refine w_cond rfl (fun hc11 => ?_) (fun hc11 => ?_)
 ·skip
  refine Zs (Zr ?_)
  refine Xa ?_
  refine Ze (Zt (w_ret (t_ret ?_)))
  exact ret1 rfl rfl (fun w' hm' => ⟨rfl, hm'.less (List.sublist_cons_self _ _) (fun _ h => h)⟩)
 cases hc11
theorem g_encN {w : World} {own : List (Nat × Obj)} {ro : List Snap} {id : Int} (hm : Mem w own ro) (n : Int) :
  Calls Tryz.prog 52 #[.pointer none, .int .i64 id, .int .i64 n] w fun e w' => e = .returned (.int .i64 1) ∧ Mem w' own ro := by
 refine enter_in hm (vs := [.pointer none, .int .i64 id, .int .i64 n]) Tryz.func52 rfl Tryz.ntmps52 rfl ?_
 refine Zs (Zr ?_)
 refine Xa ?_
 refine Ze (Zt (Zs (Zr ?_)))
 refine Xm ?_
 refine Xm ?_
 refine Xm ?_
 refine Xv rfl (v_buildL (places := [(0, 1), (1, 1)]) u165 zr165 Zk rfl rfl) ?_
 refine x_turnf (τ := Unit) (v := .int .i64 1) (fun _ => True) (fun _ => own) rfl rfl Tryz.func105 Zk rfl (fun w1 hw1 => (g_post_encN (id := id) hw1 n).mono fun e w2 h => ⟨h.1, (), trivial, h.2⟩) fun _ _ => ?_
 refine Xa ?_
 refine Ze (Zt (w_ret ?_))
 exact ret1 rfl rfl (fun w' hm' => ⟨rfl, hm'⟩)
open Go.RowKit Go.PK
end Go.Proofs.YtifekogdhjabaaaGreatDoor

/-
  DERIVED: THE SHELF's CONTRACTS AT THIS DUMP, IN PLAIN WORDS (tools/lay-plain.mjs out of 'TryzKeys.lean', which tools/lay-shelf.mjs wrote): THE SAME DECLARATIONS UNDER THE SAME NAMES: 'import', 'namespace', 'open', 'def', 'theorem' AND NOTHING ELSE: no command of the shelf's: FOR A HAND-IN. Each laying: the table of numbers ('.._ren') and one theorem, a field a fact of the dump's own or the kernel's comparison; each contract: ONE APPLICATION.
-/
namespace Go.Proofs
open Go.Shelf
def Tryz.keysO_ren : Go.Shelf.Ren := ⟨fun | 7 => 66 | 10 => 125 | n => n, fun | 23 => 36 | 26 => 3 | 3 => 100 | 28 => 118 | 0 => 0 | 27 => 117 | 33 => 179 | 4 => 4 | n => n, fun | n => n⟩
theorem Tryz.keysO : Go.Proofs.SlLaysZI.n7 Tryz.prog Tryz.keysO_ren := {
  mixed := by kernel_rfl
  f7 := ⟨Tryz.f66.name, by decide, Tryz.func66.trans (congrArg some (by kernel_rfl))⟩
  f10 := ⟨Tryz.f125.name, by decide, Tryz.func125.trans (congrArg some (by kernel_rfl))⟩
  t0 := Tryz.underlying0
  a0 := Tryz.isAgg0
  z0 := Tryz.sizeOf0
  v0 := Tryz.zeroValue0
  t4 := Tryz.underlying4
  a4 := Tryz.isAgg4
  z4 := Tryz.sizeOf4
  v4 := Tryz.zeroValue4
  t23 := Tryz.underlying36
  a23 := Tryz.isAgg36
  z23 := Tryz.sizeOf36
  v23 := Tryz.zeroValue36
  t26 := Tryz.underlying3
  a26 := Tryz.isAgg3
  z26 := Tryz.sizeOf3
  v26 := Tryz.zeroValue3
  t27 := Tryz.underlying117
  a27 := Tryz.isAgg117
  z27 := Tryz.sizeOf117
  v27 := Tryz.zeroValue117
  t28 := Tryz.underlying118
  a28 := Tryz.isAgg118
  z28 := Tryz.sizeOf118
  v28 := Tryz.zeroValue118
  t33 := Tryz.underlying179
  a33 := Tryz.isAgg179
  z33 := Tryz.sizeOf179
  v33 := Tryz.zeroValue179 }
def Tryz.keysF_ren : Go.Shelf.Ren := ⟨fun | 7 => 68 | 10 => 126 | n => n, fun | 23 => 123 | 26 => 3 | 3 => 126 | 28 => 118 | 0 => 0 | 27 => 117 | 33 => 179 | 4 => 4 | n => n, fun | n => n⟩
def Tryz.sorted_ren : Go.Shelf.Ren := ⟨fun | 6 => 65 | 8 => 123 | 9 => 124 | 11 => 168 | 13 => 170 | 12 => 169 | 23 => 196 | 24 => 197 | 14 => 188 | 15 => 189 | 16 => 190 | 17 => 191 | 18 => 192 | 19 => 193 | 20 => 172 | 21 => 194 | 22 => 195 | 25 => 212 | 26 => 213 | 27 => 214 | 28 => 215 | 29 => 216 | 30 => 198 | 31 => 232 | n => n, fun | 26 => 3 | 28 => 118 | 24 => 44 | 0 => 0 | 3 => 3 | 37 => 222 | 48 => 246 | 50 => 151 | 4 => 4 | 40 => 240 | 39 => 239 | 45 => 115 | 5 => 5 | 9 => 9 | 51 => 259 | 55 => 262 | 57 => 276 | 58 => 277 | 33 => 179 | n => n, fun | n => n⟩
theorem Tryz.sorted : Go.Proofs.SlLaysZI.n6 Tryz.prog Tryz.sorted_ren := {
  mixed := by kernel_rfl
  f6 := ⟨Tryz.f65.name, by decide, Tryz.func65.trans (congrArg some (by kernel_rfl))⟩
  f8 := ⟨Tryz.f123.name, by decide, Tryz.func123.trans (congrArg some (by kernel_rfl))⟩
  f11 := ⟨Tryz.f168.name, by decide, Tryz.func168.trans (congrArg some (by kernel_rfl))⟩
  t0 := Tryz.underlying0
  a0 := Tryz.isAgg0
  z0 := Tryz.sizeOf0
  v0 := Tryz.zeroValue0
  t24 := Tryz.underlying44
  a24 := Tryz.isAgg44
  z24 := Tryz.sizeOf44
  v24 := Tryz.zeroValue44
  t26 := Tryz.underlying3
  a26 := Tryz.isAgg3
  z26 := Tryz.sizeOf3
  v26 := Tryz.zeroValue3
  t28 := Tryz.underlying118
  a28 := Tryz.isAgg118
  z28 := Tryz.sizeOf118
  v28 := Tryz.zeroValue118
  i26 := by kernel_rfl }
def Tryz.sort_ren : Go.Shelf.Ren := ⟨fun | 5 => 124 | 8 => 170 | 7 => 169 | 19 => 196 | 20 => 197 | 10 => 188 | 11 => 189 | 12 => 190 | 13 => 191 | 14 => 192 | 15 => 193 | 16 => 172 | 17 => 194 | 18 => 195 | 30 => 212 | 31 => 213 | 32 => 214 | 33 => 215 | 34 => 216 | 35 => 198 | 40 => 232 | n => n, fun | 23 => 44 | 25 => 3 | 3 => 3 | 32 => 222 | 22 => 44 | 0 => 0 | 44 => 246 | 46 => 151 | 4 => 4 | 36 => 240 | 35 => 239 | 41 => 115 | 5 => 5 | 9 => 9 | 53 => 259 | 57 => 262 | 63 => 276 | 64 => 277 | n => n, fun | n => n⟩
theorem Tryz.sort : Go.Proofs.SlLaysM.n5 Tryz.prog Tryz.sort_ren := {
  mixed := by kernel_rfl
  f5 := ⟨Tryz.f124.name, by decide, Tryz.func124.trans (congrArg some (by kernel_rfl))⟩
  f7 := ⟨Tryz.f169.name, by decide, Tryz.func169.trans (congrArg some (by kernel_rfl))⟩
  f8 := Tryz.func170.trans (congrArg some (by kernel_rfl))
  f10 := ⟨Tryz.f188.name, by decide, Tryz.func188.trans (congrArg some (by kernel_rfl))⟩
  f11 := ⟨Tryz.f189.name, by decide, Tryz.func189.trans (congrArg some (by kernel_rfl))⟩
  f12 := ⟨Tryz.f190.name, by decide, Tryz.func190.trans (congrArg some (by kernel_rfl))⟩
  f13 := ⟨Tryz.f191.name, by decide, Tryz.func191.trans (congrArg some (by kernel_rfl))⟩
  f14 := ⟨Tryz.f192.name, by decide, Tryz.func192.trans (congrArg some (by kernel_rfl))⟩
  f15 := ⟨Tryz.f193.name, by decide, Tryz.func193.trans (congrArg some (by kernel_rfl))⟩
  f16 := ⟨Tryz.f172.name, by decide, Tryz.func172.trans (congrArg some (by kernel_rfl))⟩
  f17 := ⟨Tryz.f194.name, by decide, Tryz.func194.trans (congrArg some (by kernel_rfl))⟩
  f18 := ⟨Tryz.f195.name, by decide, Tryz.func195.trans (congrArg some (by kernel_rfl))⟩
  f19 := Tryz.func196.trans (congrArg some (by kernel_rfl))
  f20 := Tryz.func197.trans (congrArg some (by kernel_rfl))
  f30 := ⟨Tryz.f212.name, by decide, Tryz.func212.trans (congrArg some (by kernel_rfl))⟩
  f31 := Tryz.func213.trans (congrArg some (by kernel_rfl))
  f32 := Tryz.func214.trans (congrArg some (by kernel_rfl))
  f33 := ⟨Tryz.f215.name, by decide, Tryz.func215.trans (congrArg some (by kernel_rfl))⟩
  f34 := ⟨Tryz.f216.name, by decide, Tryz.func216.trans (congrArg some (by kernel_rfl))⟩
  f35 := ⟨Tryz.f198.name, by decide, Tryz.func198.trans (congrArg some (by kernel_rfl))⟩
  f40 := ⟨Tryz.f232.name, by decide, Tryz.func232.trans (congrArg some (by kernel_rfl))⟩
  t0 := Tryz.underlying0
  a0 := Tryz.isAgg0
  z0 := Tryz.sizeOf0
  v0 := Tryz.zeroValue0
  t3 := Tryz.underlying3
  a3 := Tryz.isAgg3
  z3 := Tryz.sizeOf3
  v3 := Tryz.zeroValue3
  t4 := Tryz.underlying4
  a4 := Tryz.isAgg4
  z4 := Tryz.sizeOf4
  v4 := Tryz.zeroValue4
  t5 := Tryz.underlying5
  a5 := Tryz.isAgg5
  z5 := Tryz.sizeOf5
  v5 := Tryz.zeroValue5
  t9 := Tryz.underlying9
  a9 := Tryz.isAgg9
  z9 := Tryz.sizeOf9
  v9 := Tryz.zeroValue9
  t22 := Tryz.underlying44
  a22 := Tryz.isAgg44
  z22 := Tryz.sizeOf44
  v22 := Tryz.zeroValue44
  t23 := Tryz.underlying44
  a23 := Tryz.isAgg44
  z23 := Tryz.sizeOf44
  v23 := Tryz.zeroValue44
  t25 := Tryz.underlying3
  a25 := Tryz.isAgg3
  z25 := Tryz.sizeOf3
  v25 := Tryz.zeroValue3
  t32 := Tryz.underlying222
  a32 := Tryz.isAgg222
  z32 := Tryz.sizeOf222
  v32 := Tryz.zeroValue222
  t35 := Tryz.underlying239
  a35 := Tryz.isAgg239
  z35 := Tryz.sizeOf239
  v35 := Tryz.zeroValue239
  t36 := Tryz.underlying240
  a36 := Tryz.isAgg240
  z36 := Tryz.sizeOf240
  v36 := Tryz.zeroValue240
  t41 := Tryz.underlying115
  a41 := Tryz.isAgg115
  z41 := Tryz.sizeOf115
  v41 := Tryz.zeroValue115
  t44 := Tryz.underlying246
  a44 := Tryz.isAgg246
  z44 := Tryz.sizeOf246
  v44 := Tryz.zeroValue246
  t46 := Tryz.underlying151
  a46 := Tryz.isAgg151
  z46 := Tryz.sizeOf151
  v46 := Tryz.zeroValue151
  t53 := Tryz.underlying259
  a53 := Tryz.isAgg259
  z53 := Tryz.sizeOf259
  v53 := Tryz.zeroValue259
  t57 := Tryz.underlying262
  a57 := Tryz.isAgg262
  z57 := Tryz.sizeOf262
  v57 := Tryz.zeroValue262
  t63 := Tryz.underlying276
  a63 := Tryz.isAgg276
  z63 := Tryz.sizeOf276
  v63 := Tryz.zeroValue276
  t64 := Tryz.underlying277
  a64 := Tryz.isAgg277
  z64 := Tryz.sizeOf277
  v64 := Tryz.zeroValue277 }
end Go.Proofs

namespace Go.Proofs.YtifekogdhjabaaaGreatDoor
open Go.RowKit Go.PK
open Go.Maps Go.Sort Go.Shelf
theorem sortsA (m : Nat) : AnyZI.SortsIn Tryz.prog Tryz.sorted_ren Fence.wide m :=
 ⟨fun blk off cap ss W hH hblk hsz => callsIn_wide.2 (AnyM.slices_Sort_int Tryz.sort blk off cap ss W hH hblk hsz),
  fun p cap W => callsIn_wide.2 (AnyM.slices_Sort_int_none Tryz.sort p cap W)⟩
theorem g_KeysO (mb : Option Nat) (w : World) : Calls Tryz.prog 66 #[.map mb] w fun e w' => ∃ Bm : Nat, e = .returned (.func (.func 125) #[] #[.pointer (some ⟨Bm, 0, none⟩)]) ∧ Later w w' ∧ Mem w' [(Bm, Obj.cells #[.map mb] 36)] [(w, fun _ => True)] :=
 ((callsIn_wide (n := 5)).1 (AnyZI.keys_in Tryz.keysO Fence.wide 5 trivial rfl mb w)).mono fun e w' ⟨h1, h2⟩ => ⟨w.heap.size, h1, by rw [h2]; exact Later.alloc w _, by rw [h2]; exact (Mem.init w).new _⟩
theorem g_SortedO {es : Array MapEntry} {ck : Nat} {Φ : Value → Option Value} {ids : List Int} (Bm b : Nat) (w : World) (hBm : w.cell? ⟨Bm, 0, none⟩ = some (.map (some b))) (hb : w.heap[b]? = some (.map es ck)) (hC : MapC Tryz.prog 3 es ck Φ) (hk : keysIs Φ ids) (hs : ids.Pairwise (· < ·)) (hn : ids.length ≤ 1000000) (hin : ∀ n ∈ ids, in64 n) :
  Calls Tryz.prog 65 #[.func (.func 125) #[] #[.pointer (some ⟨Bm, 0, none⟩)]] w fun e w' => ∃ v, e = .returned v ∧ Later w w' ∧ sliceRd tyI (fun b => w.heap.size ≤ b) w' v ids := by
 obtain ⟨D, hD1, hD2, hD3⟩ := hC.owns hk u3 (by unfold maxLen; omega) hb
 have hseq : SeqGives Fence.wide 2 Tryz.prog 125 #[.pointer (some ⟨Bm, 0, none⟩)] encZ (fun ss => ss.Perm (intKeys D)) (Maps.size D) w :=
  AnyZI.keys_gives (ρ := Tryz.keysO_ren) { Tryz.keysO with } Fence.wide _ trivial rfl (by omega) Bm b _ D w (cell_lt (p := ⟨Bm, 0, none⟩) hBm) hBm hD1
 have cS := AnyZI.sorted_in Tryz.sorted Fence.wide 5 trivial trivial trivial trivial rfl (by omega) (sortsA _) (enters_of Tryz.func124 Zk rfl) 125 #[.pointer (some ⟨Bm, 0, none⟩)] trivial (enters_of Tryz.func125 Zk rfl) _ _ (by rw [hD2]; unfold maxLen; omega) (by rw [hD2]; omega) _ hseq
 change CallsIn _ _ Tryz.prog 65 _ _ _ at cS
 refine ((callsIn_wide (n := 5)).1 cS).mono ?_
 rintro e w' ⟨v, ss, rfl, hp, hrow, _, hbel⟩
 have hp2 := hp.trans hD3
 rw [sort_ids hp2 hs, hp2.length_eq] at hrow
 exact ⟨v, rfl, ⟨hbel.os, hbel.tape, hbel.output, hbel.size, hbel.block⟩, owns_rd hrow hin⟩
open Go.RowKit Go.PK
theorem g_All {pO mO : Nat} {es : Array MapEntry} {ck : Nat} {Φ : Value → Option Value} {ids : List Int} (hk : keysIs Φ ids) (hs : ids.Pairwise (· < ·)) (hn : ids.length ≤ 1000000) (hin : ∀ n ∈ ids, in64 n) (w : World) (hC : MapC Tryz.prog 3 es ck (Φ)) (h1 : w.cell? ⟨pO, 2, none⟩ = some (.map (some mO))) (h2 : w.heap[mO]? = some (.map es ck)) :
  Calls Tryz.prog 20 #[.pointer (some ⟨pO, 0, none⟩)] w fun e w' => ∃ v, e = .returned v ∧ Later w w' ∧ sliceRd tyI (fun b => w.heap.size ≤ b) w' v ids := by
 refine enter (vs := [.pointer (some ⟨pO, 0, none⟩)]) Tryz.func20 rfl Tryz.ntmps20 rfl ?_
 refine Zs (Zr ?_)
 refine Xa ?_
 refine Ze (Zt (Zs (Zs (Zr ?_))))
 refine Xm ?_
 refine Xv (v := Value.bool false) rfl (v_pnil (o := some ⟨pO, 0, none⟩) u27 rfl rfl) ?_
 refine Ze (Zt ?_)
 refine w_cond rfl (fun hc4 => ?_) (fun hc4 => ?_)
 ·cases hc4
 skip
 refine w_skip (Zt (Zs (Zr ?_)))
 refine Xm ?_
 refine Xv rfl (v_nilCheck rfl) ?_
 refine Xv rfl (v_fieldAddr (off' := 2) u38 rfl sz36 (by decide) rfl rfl) ?_
 refine Xv rfl (v_load u36 rfl rfl (at_ro (.head _) trivial h1)) ?_
 refine x_own (τ := Nat) (fun Bm => .func (.func 125) #[] #[.pointer (some ⟨Bm, 0, none⟩)]) (fun _ => True) (fun Bm => [(Bm, Obj.cells #[.map (some mO)] 36)]) rfl rfl rfl Tryz.func66 Zk rfl (fun w1 hw1 => (g_KeysO (some mO) w1).mono fun e w2 ⟨Bm, h1, h2, h3⟩ => ⟨Bm, h1, h2, trivial, (hw1.join2 h3).to (by simp)⟩) fun Bm _ => ?_
 refine x_call (R := fun v wa wb => sliceRd tyI (fun b => wa.heap.size ≤ b) wb v ids) rfl rfl rfl Tryz.func65 Zk rfl (fun w1 hw1 => (g_SortedO Bm mO w1 (at_ownL (vs := [.map (some mO)]) (.head _) rfl w1 hw1) (((hw1.base (by simp)).block mO (heap_lt h2)).trans h2) hC hk hs hn hin).mono fun e w2 ⟨v, h1, h2, h3⟩ => ⟨v, h1, h2, h3⟩) fun v10 wa10 wb10 hm10 hl10 hR10 => ?_
 refine Xa ?_
 refine Ze (Zt (w_ret ?_))
 exact ret1 rfl rfl (fun w' hm => ⟨_, rfl, hm.base (by simp), hR10.keep (Kept.made0 hm hm10 (by simp) (by simp))⟩)
set_option maxHeartbeats 1000000 in
theorem g_EncO {pO mO : Nat} {es : Array MapEntry} {ck : Nat} {L : List EN} (w : World) (hs : srtL L) (hn : L.length ≤ 5000) (hen : ∀ e ∈ L, enN e) (hC : MapC Tryz.prog 3 es ck (fOL L)) (h1 : w.cell? ⟨pO, 2, none⟩ = some (.map (some mO))) (h2 : w.heap[mO]? = some (.map es ck)) :
  Calls Tryz.prog 18 #[.pointer (some ⟨pO, 0, none⟩)] w fun e w' => e = .returned (.string ⟨(intsG (encL L)).toArray⟩) ∧ Later w w' := by
 refine enter (vs := [.pointer (some ⟨pO, 0, none⟩)]) Tryz.func18 rfl Tryz.ntmps18 rfl ?_
 refine Zs (Zr ?_)
 refine Xa ?_
 refine Ze (Zt (Zs (Zs (Zr ?_))))
 refine Xm ?_
 refine Xv (v := Value.bool false) rfl (v_pnil (o := some ⟨pO, 0, none⟩) u27 rfl rfl) ?_
 refine Ze (Zt ?_)
 refine w_cond rfl (fun hc8 => ?_) (fun hc8 => ?_)
 ·cases hc8
 skip
 refine w_skip (Zt (Zs (Zr ?_)))
 refine Xa ?_
 refine Ze (Zt (Zs (Zs (Zr ?_))))
 refine Xm ?_
 refine x_call (R := fun v wa wb => sliceRd tyI (fun b => wa.heap.size ≤ b) wb v (L.map (·.1.id))) rfl rfl rfl Tryz.func20 Zk rfl (fun w1 hw1 => (g_All (ids := (L.map (·.1.id))) (fOL_keys hs) (srt_map hs) (by rw [List.length_map]; omega) (ids_in hen) w1 hC (at_ro (.head _) trivial h1 w1 hw1) (((hw1.base (by simp)).block mO (heap_lt h2)).trans h2)).mono fun e w2 ⟨v, h1, h2, h3⟩ => ⟨v, h1, h2, h3⟩) fun v10 wa10 wb10 hm10 hl10 hR10 => ?_
 obtain ⟨A10, c10, rfl, _⟩ := id hR10
 have hlen : (L.map (·.1.id)).length = L.length := List.length_map _
 rw [hlen] at hR10 ⊢
 refine Xv rfl (v_len_slice u44 rfl) ?_
 refine Xm ?_
 refine Ze (Zt (w_block ?_))
 refine w_loop (σ := Nat × RowS) (fun x => x.1 ≤ L.length ∧ rowOK 1 x.2 (x.1 * 10) ((encL (L.take x.1)).map (Value.int .i64))) (fun x => [(0, Value.pointer (some ⟨pO, 0, none⟩)), (3, rowV x.2 (x.1 * 10)), (10, Value.slice A10 L.length c10), (11, Value.int .i64 (L.length : Nat)), (12, Value.int .i64 (x.1 : Nat))]) (fun x => rowO 3 x.2) (fun x => [(wb10, notOwn []), (w, fun _ => True)]) (fun x => L.length - x.1) ((0, none)) (⟨Nat.zero_le _, rowOK_nil⟩) (l_start Zu (fun _ h => h)) ?_
 rintro ⟨k, R⟩ ⟨hkL, hR⟩
 refine w_state ([(0, Value.pointer (some ⟨pO, 0, none⟩)), (3, rowV R (k * 10)), (10, Value.slice A10 L.length c10), (11, Value.int .i64 (L.length : Nat)), (12, Value.int .i64 (k : Nat))]) (rowO 3 R) ([(wb10, notOwn []), (w, fun _ => True)]) ?_
 dsimp only at hkL hR
 refine Zs (Zr ?_)
 refine Xb rfl (v_lss rfl rfl) fun b13 hb13 => ?_
 refine Ze (Zt (Zs ?_))
 refine w_cond rfl (fun hc13 => ?_) (fun hc13 => ?_)
 ·simp only [hb13, Qz, ne_eq] at hc13
  have hkl : k < L.length := by omega
  obtain ⟨b0, o0, hA0, hD0, hc0, hin0⟩ := int_at hR10 (k := k) (by rw [List.length_map]; exact hkl)
  have hlk := lkL_at hs hkl
  rw [List.getElem_map] at hc0 hin0
  refine w_skip (Zt (Zs (w_block (Zs (Zr ?_)))))
  refine Xv rfl (v_indexAddr u44 sz3 (congrArg (fun A => some (Value.slice A L.length c10)) hA0) rfl Zo rfl) ?_
  refine Xv rfl (v_load u3 rfl rfl (at_ro (.head _) (fun q hq => by cases hq) (by rw [Nat.mul_one]; exact hc0))) ?_
  refine Xa ?_
  refine Ze (Zt (Zs (Zr ?_)))
  refine Xm ?_
  refine Xv rfl (v_nilCheck rfl) ?_
  refine Xv rfl (v_fieldAddr (off' := 2) u38 rfl sz36 (by decide) rfl rfl) ?_
  refine Xv rfl (v_load u36 rfl rfl (at_ro (.tail _ (.head _)) trivial h1)) ?_
  refine Xm ?_
  refine Xv (v := orV L[k].1 L[k].2) rfl (v_lookupH u36 (Maps.int_keyed u3) zr100 rfl rfl (Maps.keyOf_int_mk u3 (wf_in hin0)) (map_ro (.tail _ (.head _)) trivial h2) hC.f (by rw [fOL_at, hlk]; rfl)) ?_
  refine x_alloc rfl rfl rfl zr100 ?_
  intro p6
  refine x_store0 [] rfl rfl rfl rfl sz100 rfl rfl ?_
  refine Ze (Zt (Zr ?_))
  refine Xm ?_
  refine Xv rfl (v_fieldAddr (off' := 0) u100 rfl sz25 (by decide) rfl rfl) ?_
  refine Xv rfl (v_fieldAddr (off' := 0) u25 rfl sz3 (by decide) rfl rfl) ?_
  refine Xv rfl (v_load u3 rfl rfl (at_ownL (vs := orC10 L[k].1 L[k].2) (.head _) rfl)) ?_
  refine Xv rfl (v_fieldAddr (off' := 0) u100 rfl sz25 (by decide) rfl rfl) ?_
  refine Xv rfl (v_fieldAddr (off' := 1) u25 rfl sz3 (by decide) rfl rfl) ?_
  refine Xv rfl (v_load u3 rfl rfl (at_ownL (vs := orC10 L[k].1 L[k].2) (.head _) rfl)) ?_
  refine Xv rfl (v_fieldAddr (off' := 0) u100 rfl sz25 (by decide) rfl rfl) ?_
  refine Xv rfl (v_fieldAddr (off' := 2) u25 rfl sz23 (by decide) rfl rfl) ?_
  refine Xv rfl (v_fieldAddr (off' := 2) u23 rfl sz3 (by decide) rfl rfl) ?_
  refine Xv rfl (v_load u3 rfl rfl (at_ownL (vs := orC10 L[k].1 L[k].2) (.head _) rfl)) ?_
  refine Xv rfl (v_fieldAddr (off' := 0) u100 rfl sz25 (by decide) rfl rfl) ?_
  refine Xv rfl (v_fieldAddr (off' := 2) u25 rfl sz23 (by decide) rfl rfl) ?_
  refine Xv rfl (v_fieldAddr (off' := 3) u23 rfl sz3 (by decide) rfl rfl) ?_
  refine Xv rfl (v_load u3 rfl rfl (at_ownL (vs := orC10 L[k].1 L[k].2) (.head _) rfl)) ?_
  refine Xv rfl (v_fieldAddr (off' := 0) u100 rfl sz25 (by decide) rfl rfl) ?_
  refine Xv rfl (v_fieldAddr (off' := 4) u25 rfl sz3 (by decide) rfl rfl) ?_
  refine Xv rfl (v_load u3 rfl rfl (at_ownL (vs := orC10 L[k].1 L[k].2) (.head _) rfl)) ?_
  refine Xv rfl (v_fieldAddr (off' := 0) u100 rfl sz25 (by decide) rfl rfl) ?_
  refine Xv rfl (v_fieldAddr (off' := 5) u25 rfl sz3 (by decide) rfl rfl) ?_
  refine Xv rfl (v_load u3 rfl rfl (at_ownL (vs := orC10 L[k].1 L[k].2) (.head _) rfl)) ?_
  refine Xv rfl (v_fieldAddr (off' := 0) u100 rfl sz25 (by decide) rfl rfl) ?_
  refine Xv rfl (v_fieldAddr (off' := 6) u25 rfl sz3 (by decide) rfl rfl) ?_
  refine Xv rfl (v_load u3 rfl rfl (at_ownL (vs := orC10 L[k].1 L[k].2) (.head _) rfl)) ?_
  refine Xv rfl (v_fieldAddr (off' := 0) u100 rfl sz25 (by decide) rfl rfl) ?_
  refine Xv rfl (v_fieldAddr (off' := 7) u25 rfl sz3 (by decide) rfl rfl) ?_
  refine Xv rfl (v_load u3 rfl rfl (at_ownL (vs := orC10 L[k].1 L[k].2) (.head _) rfl)) ?_
  refine Xv rfl (v_fieldAddr (off' := 0) u100 rfl sz25 (by decide) rfl rfl) ?_
  refine Xv rfl (v_fieldAddr (off' := 8) u25 rfl sz3 (by decide) rfl rfl) ?_
  refine Xv rfl (v_load u3 rfl rfl (at_ownL (vs := orC10 L[k].1 L[k].2) (.head _) rfl)) ?_
  refine Xv rfl (v_fieldAddr (off' := 9) u100 rfl sz3 (by decide) rfl rfl) ?_
  refine Xv rfl (v_load u3 rfl rfl (at_ownL (vs := orC10 L[k].1 L[k].2) (.head _) rfl)) ?_
  refine x_buildSliceL (cs := [Value.int .i64 L[k].1.id, .int .i64 L[k].1.fund, .int .i64 L[k].1.src, .int .i64 L[k].1.num, .int .i64 L[k].1.copies, .int .i64 L[k].1.price, .int .i64 L[k].1.prom, .int .i64 L[k].1.paid, .int .i64 L[k].1.st, .int .i64 L[k].2]) rfl rfl rfl u44 sz3 zr3 rfl rfl rfl ?_
  intro p54
  refine x_append (e := 3) [(p54, Obj.cells ([Value.int .i64 L[k].1.id, .int .i64 L[k].1.fund, .int .i64 L[k].1.src, .int .i64 L[k].1.num, .int .i64 L[k].1.copies, .int .i64 L[k].1.price, .int .i64 L[k].1.prom, .int .i64 L[k].1.paid, .int .i64 L[k].1.st, .int .i64 L[k].2]).toArray 3 (0, 0)), (p6, Obj.cells (orC10 L[k].1 L[k].2).toArray 100)] (l2 := []) R (len := k * 10) (xs := ((encL (L.take k)).map (Value.int .i64))) rfl rfl rfl rfl (by simp only [List.append_nil]; rfl) hR u44 ap3 rfl rfl (m := 10) (news := [Value.int .i64 L[k].1.id, .int .i64 L[k].1.fund, .int .i64 L[k].1.src, .int .i64 L[k].1.num, .int .i64 L[k].1.copies, .int .i64 L[k].1.price, .int .i64 L[k].1.prom, .int .i64 L[k].1.paid, .int .i64 L[k].1.st, .int .i64 L[k].2]) (fun i hi => at_ownL (vs := [Value.int .i64 L[k].1.id, .int .i64 L[k].1.fund, .int .i64 L[k].1.src, .int .i64 L[k].1.num, .int .i64 L[k].1.copies, .int .i64 L[k].1.price, .int .i64 L[k].1.prom, .int .i64 L[k].1.paid, .int .i64 L[k].1.st, .int .i64 L[k].2]) (.head _) (by rw [Nat.zero_add]; exact List.getElem?_eq_getElem hi)) rfl Zx (by omega) fun R' hR' => ?_
  rw [List.append_nil]
  refine Xa ?_
  refine Ze (b_norm (Zt (Zr ?_)))
  refine Xv rfl (v_addi rfl rfl rfl Zo) ?_
  refine Xm ?_
  refine Ze ?_
  exact l_norm (x := (k, R)) (μ := fun q : Nat × RowS => L.length - q.1) (k + 1, R') ⟨hkl, by dsimp only; rw [encL, flat_snoc enI hkl, List.map_append, show (k + 1) * 10 = k * 10 + 10 by omega]; exact hR'⟩ (by simp only; omega) (by dsimp only; rw [show (k + 1) * 10 = k * 10 + 10 by omega]; exact Zu) (fun w1 h => h.less (((List.Sublist.refl _).cons _).cons _) (fun _ h => h))
 simp only [hb13, Qz, ne_eq] at hc13
 obtain rfl : k = L.length := by omega
 rw [List.take_length] at hR
 refine w_exit ?_
 refine t_exit ?_
 refine t_exit ?_
 refine b_hit ?_
 refine Zt (Zs (Zr ?_))
 refine Xm ?_
 refine x_callv (v := Value.string ⟨(intsG (encL L)).toArray⟩) rfl rfl rfl Tryz.func64 Zk rfl (fun w1 hw1 => c_Ints w1 (rowI_rd (D := fun _ => True) (e := 3) hR (encL_len L).symm (encL_in hen) hw1 (fun q hq => hq) (fun _ _ => trivial)) (by rw [encL_len]; omega)) ?_
 refine Xa ?_
 refine Ze (Zt (w_ret ?_))
 refine ret1 rfl rfl (fun w' hm => ⟨?_, hm.base (by simp)⟩)
 rfl
open Go.RowKit Go.PK
open Go.RowKit Go.PK
open Go.RowKit Go.PK
theorem g_OrdN (id : Int) (w : World) :
  Calls Tryz.prog 11 #[.pointer none, .int .i64 id] w fun e w' => e = .returned (.tuple #[.agg zeroO.cells.toArray, .bool false]) ∧ Later w w' := by
 refine enter (vs := [.pointer none, .int .i64 id]) Tryz.func11 rfl Tryz.ntmps11 rfl ?_
 refine Zs (Zr ?_)
 refine x_alloc rfl rfl rfl zr25 ?_
 intro p4
 refine Xa ?_
 refine Ze (Zt (Zs (Zs (Zr ?_))))
 refine Xm ?_
 refine Xv (v := Value.bool true) rfl (v_pnil (o := none) u27 rfl rfl) ?_
 refine Ze (Zt ?_)
 refine w_cond rfl (fun hc9 => ?_) (fun hc9 => ?_)
 ·skip
  refine Zs (Zr ?_)
  refine Xv (v := Value.agg zeroO.cells.toArray) rfl (v_buildL (cs := zeroO.cells) (places := [(0, 1), (1, 1), (2, 2), (4, 1), (5, 1), (6, 1), (7, 1), (8, 1)]) u25 zr25 Zk rfl rfl) ?_
  refine x_store0 [] rfl rfl rfl rfl sz25 rfl rfl ?_
  refine Xa ?_
  refine Ze (Zt (w_ret (t_ret ?_)))
  exact retct (cs := zeroO.cells.toArray) rfl rfl rfl (.head _) u25 rfl sz25 (fun w' hm => ⟨rfl, hm.base (by simp)⟩)
 cases hc9
theorem g_PlaceN (y : PK.Ord) (w : World) :
  Calls Tryz.prog 12 #[.pointer none, .agg y.cells.toArray] w fun e w' => e = .returned (.int .i64 (1)) ∧ Later w w' := by
 refine enter (vs := [.pointer none, .agg y.cells.toArray]) Tryz.func12 rfl Tryz.ntmps12 rfl ?_
 refine Zs (Zr ?_)
 refine x_box rfl rfl rfl rfl ?_
 intro p3
 refine Xa ?_
 refine Ze (Zt (Zs (Zs (Zr ?_))))
 refine Xm ?_
 refine Xv (v := Value.bool true) rfl (v_pnil (o := none) u27 rfl rfl) ?_
 refine Xm ?_
 refine x_no rfl rfl rfl rfl rfl ?_
 refine x_no rfl rfl rfl rfl rfl ?_
 refine x_no rfl rfl rfl rfl rfl ?_
 refine Xv (v := Value.bool true) rfl (v_pick (b := true) rfl rfl) ?_
 refine Ze (Zt ?_)
 refine w_cond rfl (fun hc14 => ?_) (fun hc14 => ?_)
 ·skip
  refine Zs (Zr ?_)
  refine Xa ?_
  refine Ze (Zt (w_ret (t_ret ?_)))
  refine ret1 rfl rfl (fun w' hm => ⟨?_, hm.base (by simp)⟩)
  rfl
 cases hc14
theorem g_AnswerN (t : ByteArray) (w : World) :
  Calls Tryz.prog 13 #[.pointer none, .string t] w fun e w' => e = .returned (.int .i64 (1)) ∧ Later w w' := by
 refine enter (vs := [.pointer none, .string t]) Tryz.func13 rfl Tryz.ntmps13 rfl ?_
 refine Zs (Zr ?_)
 refine Xa ?_
 refine Ze (Zt (Zs (Zs (Zr ?_))))
 refine Xm ?_
 refine Xv (v := Value.bool true) rfl (v_pnil (o := none) u27 rfl rfl) ?_
 refine Ze (Zt ?_)
 refine w_cond rfl (fun hc12 => ?_) (fun hc12 => ?_)
 ·skip
  refine Zs (Zr ?_)
  refine Xa ?_
  refine Ze (Zt (w_ret (t_ret ?_)))
  refine ret1 rfl rfl (fun w' hm => ⟨?_, hm.base (by simp)⟩)
  rfl
 cases hc12
theorem g_ReceiveN (id n : Int) (w : World) :
  Calls Tryz.prog 14 #[.pointer none, .int .i64 id, .int .i64 n] w fun e w' => e = .returned (.int .i64 (1)) ∧ Later w w' := by
 refine enter (vs := [.pointer none, .int .i64 id, .int .i64 n]) Tryz.func14 rfl Tryz.ntmps14 rfl ?_
 refine Zs (Zr ?_)
 refine Xa ?_
 refine Ze (Zt (Zs (Zs (Zr ?_))))
 refine Xm ?_
 refine Xv (v := Value.bool true) rfl (v_pnil (o := none) u27 rfl rfl) ?_
 refine Ze (Zt ?_)
 refine w_cond rfl (fun hc10 => ?_) (fun hc10 => ?_)
 ·skip
  refine Zs (Zr ?_)
  refine Xa ?_
  refine Ze (Zt (w_ret (t_ret ?_)))
  refine ret1 rfl rfl (fun w' hm => ⟨?_, hm.base (by simp)⟩)
  rfl
 cases hc10
theorem g_InvoiceN (t : ByteArray) (w : World) :
  Calls Tryz.prog 15 #[.pointer none, .string t] w fun e w' => e = .returned (.int .i64 (1)) ∧ Later w w' := by
 refine enter (vs := [.pointer none, .string t]) Tryz.func15 rfl Tryz.ntmps15 rfl ?_
 refine Zs (Zr ?_)
 refine Xa ?_
 refine Ze (Zt (Zs (Zs (Zr ?_))))
 refine Xm ?_
 refine Xv (v := Value.bool true) rfl (v_pnil (o := none) u27 rfl rfl) ?_
 refine Ze (Zt ?_)
 refine w_cond rfl (fun hc20 => ?_) (fun hc20 => ?_)
 ·skip
  refine Zs (Zr ?_)
  refine Xa ?_
  refine Ze (Zt (w_ret (t_ret ?_)))
  refine ret1 rfl rfl (fun w' hm => ⟨?_, hm.base (by simp)⟩)
  rfl
 cases hc20
theorem g_CancelN (id : Int) (w : World) :
  Calls Tryz.prog 16 #[.pointer none, .int .i64 id] w fun e w' => e = .returned (.int .i64 (1)) ∧ Later w w' := by
 refine enter (vs := [.pointer none, .int .i64 id]) Tryz.func16 rfl Tryz.ntmps16 rfl ?_
 refine Zs (Zr ?_)
 refine Xa ?_
 refine Ze (Zt (Zs (Zs (Zr ?_))))
 refine Xm ?_
 refine Xv (v := Value.bool true) rfl (v_pnil (o := none) u27 rfl rfl) ?_
 refine Ze (Zt ?_)
 refine w_cond rfl (fun hc9 => ?_) (fun hc9 => ?_)
 ·skip
  refine Zs (Zr ?_)
  refine Xa ?_
  refine Ze (Zt (w_ret (t_ret ?_)))
  refine ret1 rfl rfl (fun w' hm => ⟨?_, hm.base (by simp)⟩)
  rfl
 cases hc9
theorem g_AllN (w : World) :
  Calls Tryz.prog 20 #[.pointer none] w fun e w' => e = .returned (.slice none 0 0) ∧ Later w w' := by
 refine enter (vs := [.pointer none]) Tryz.func20 rfl Tryz.ntmps20 rfl ?_
 refine Zs (Zr ?_)
 refine Xa ?_
 refine Ze (Zt (Zs (Zs (Zr ?_))))
 refine Xm ?_
 refine Xv (v := Value.bool true) rfl (v_pnil (o := none) u27 rfl rfl) ?_
 refine Ze (Zt ?_)
 refine w_cond rfl (fun hc4 => ?_) (fun hc4 => ?_)
 ·skip
  refine Zs (Zr ?_)
  refine Xa ?_
  refine Ze (Zt (w_ret (t_ret ?_)))
  refine ret1 rfl rfl (fun w' hm => ⟨?_, hm.base (by simp)⟩)
  rfl
 cases hc4
theorem g_EncN (w : World) :
  Calls Tryz.prog 18 #[.pointer none] w fun e w' => e = .returned (.string ⟨#[]⟩) ∧ Later w w' := by
 refine enter (vs := [.pointer none]) Tryz.func18 rfl Tryz.ntmps18 rfl ?_
 refine Zs (Zr ?_)
 refine Xa ?_
 refine Ze (Zt (Zs (Zs (Zr ?_))))
 refine Xm ?_
 refine Xv (v := Value.bool true) rfl (v_pnil (o := none) u27 rfl rfl) ?_
 refine Ze (Zt ?_)
 refine w_cond rfl (fun hc8 => ?_) (fun hc8 => ?_)
 ·skip
  refine Zs (Zr ?_)
  refine Xa ?_
  refine Ze (Zt (w_ret (t_ret ?_)))
  refine ret1 rfl rfl (fun w' hm => ⟨?_, hm.base (by simp)⟩)
  rfl
 cases hc8
theorem g_New0 (w : World) :
  Calls Tryz.prog 17 #[.pointer none, .int .i64 0] w fun e w' => ∃ x : Nat × Nat, e = .returned (.pointer (some ⟨x.1, 0, none⟩)) ∧ Mem w' [(x.1, Obj.cells [Value.pointer none, .int .i64 (min (max 0 0) 1000000), .map (some x.2)].toArray 38), (x.2, Obj.map #[] 0)] [(w, fun _ => True)] := by
 refine enter (vs := [.pointer none, .int .i64 0]) Tryz.func17 rfl Tryz.ntmps17 rfl ?_
 refine Zs (Zr ?_)
 refine Xa ?_
 refine Ze (Zt (Zs (Zr ?_)))
 refine Xm ?_
 refine Xm ?_
 refine Xv (v := Value.int .i64 (max 0 0)) rfl (v_max rfl rfl) ?_
 refine Xv (v := Value.int .i64 (min (max 0 0) 1000000)) rfl (v_min rfl rfl) ?_
 refine x_makeMap rfl rfl rfl ?_
 intro p9
 refine Xv (v := Value.agg [Value.pointer none, .int .i64 (min (max 0 0) 1000000), .map (some p9)].toArray) rfl (v_buildL (cs := [Value.pointer none, .int .i64 (min (max 0 0) 1000000), .map (some p9)]) (places := [(0, 1), (1, 1), (2, 1)]) u38 zr38 Zk rfl rfl) ?_
 refine x_box rfl rfl rfl rfl ?_
 intro p11
 refine Xa ?_
 refine Ze (Zt (w_ret ?_))
 exact ret1 rfl rfl (fun w' hm => ⟨(_, _), rfl, hm⟩)
theorem g_ReceiveZ {pO : Nat} (w : World) (h0 : w.cell? ⟨pO, 0, none⟩ = some (.pointer none)) (h2 : w.cell? ⟨pO, 2, none⟩ = some (.map none)) {id : Int} (hid : in64 id) (n : Int) :
  Calls Tryz.prog 14 #[.pointer (some ⟨pO, 0, none⟩), .int .i64 id, .int .i64 n] w fun e w' => e = .returned (.int .i64 (32)) ∧ Later w w' := by
 refine enter (vs := [.pointer (some ⟨pO, 0, none⟩), .int .i64 id, .int .i64 n]) Tryz.func14 rfl Tryz.ntmps14 rfl ?_
 refine Zs (Zr ?_)
 refine Xa ?_
 refine Ze (Zt (Zs (Zs (Zr ?_))))
 refine Xm ?_
 refine Xv (v := Value.bool false) rfl (v_pnil (o := some ⟨pO, 0, none⟩) u27 rfl rfl) ?_
 refine Ze (Zt ?_)
 refine w_cond rfl (fun hc10 => ?_) (fun hc10 => ?_)
 ·cases hc10
 skip
 refine w_skip (Zt (Zs (Zr ?_)))
 refine Xm ?_
 refine Xv rfl (v_nilCheck rfl) ?_
 refine Xv rfl (v_fieldAddr (off' := 2) u38 rfl sz36 (by decide) rfl rfl) ?_
 refine Xv rfl (v_load u36 rfl rfl (at_ro (.head _) trivial h2)) ?_
 refine Xm ?_
 refine Xv (v := Value.tuple #[.agg (orC10 zeroO 0).toArray, .bool false]) rfl (v_lookup2_nil u36 (Maps.int_keyed u3) zr100 rfl rfl (Maps.keyOf_int_mk u3 (wf_in hid))) ?_
 refine Xm ?_
 refine Xv rfl (v_extract rfl rfl) ?_
 refine Xb rfl (v_extract rfl rfl) fun b19 hb19 => ?_
 refine x_alloc rfl rfl rfl zr100 ?_
 intro p7
 refine x_store0 [] rfl rfl rfl rfl sz100 rfl rfl ?_
 refine Xa ?_
 refine Ze (Zt (Zs (w_block (Zs (Zr ?_)))))
 refine Xm ?_
 refine Xb rfl (v_not rfl) fun b22 hb22 => ?_
 refine Xa ?_
 refine Ze (Zt ?_)
 refine w_cond rfl (fun hc20 => ?_) (fun hc20 => ?_)
 ·simp only [hb22, hb19, Qz, ne_eq] at hc20
  refine Zs (Zr ?_)
  refine Xa ?_
  refine Ze (Zt (w_ret (b_ret (t_ret ?_))))
  refine ret1 rfl rfl (fun w' hm => ⟨?_, hm.base (by simp)⟩)
  rfl
 exfalso
 rw [hb22, hb19] at hc20
 revert hc20; simp
theorem g_CancelZ {pO : Nat} (w : World) (h0 : w.cell? ⟨pO, 0, none⟩ = some (.pointer none)) (h2 : w.cell? ⟨pO, 2, none⟩ = some (.map none)) {id : Int} (hid : in64 id) :
  Calls Tryz.prog 16 #[.pointer (some ⟨pO, 0, none⟩), .int .i64 id] w fun e w' => e = .returned (.int .i64 (32)) ∧ Later w w' := by
 refine enter (vs := [.pointer (some ⟨pO, 0, none⟩), .int .i64 id]) Tryz.func16 rfl Tryz.ntmps16 rfl ?_
 refine Zs (Zr ?_)
 refine Xa ?_
 refine Ze (Zt (Zs (Zs (Zr ?_))))
 refine Xm ?_
 refine Xv (v := Value.bool false) rfl (v_pnil (o := some ⟨pO, 0, none⟩) u27 rfl rfl) ?_
 refine Ze (Zt ?_)
 refine w_cond rfl (fun hc9 => ?_) (fun hc9 => ?_)
 ·cases hc9
 skip
 refine w_skip (Zt (Zs (Zr ?_)))
 refine Xm ?_
 refine Xv rfl (v_nilCheck rfl) ?_
 refine Xv rfl (v_fieldAddr (off' := 2) u38 rfl sz36 (by decide) rfl rfl) ?_
 refine Xv rfl (v_load u36 rfl rfl (at_ro (.head _) trivial h2)) ?_
 refine Xm ?_
 refine Xv (v := Value.tuple #[.agg (orC10 zeroO 0).toArray, .bool false]) rfl (v_lookup2_nil u36 (Maps.int_keyed u3) zr100 rfl rfl (Maps.keyOf_int_mk u3 (wf_in hid))) ?_
 refine Xm ?_
 refine Xv rfl (v_extract rfl rfl) ?_
 refine Xb rfl (v_extract rfl rfl) fun b18 hb18 => ?_
 refine x_alloc rfl rfl rfl zr100 ?_
 intro p5
 refine x_store0 [] rfl rfl rfl rfl sz100 rfl rfl ?_
 refine Xa ?_
 refine Ze (Zt (Zs (w_block (Zs (Zr ?_)))))
 refine Xm ?_
 refine Xb rfl (v_not rfl) fun b21 hb21 => ?_
 refine Xa ?_
 refine Ze (Zt ?_)
 refine w_cond rfl (fun hc19 => ?_) (fun hc19 => ?_)
 ·simp only [hb21, hb18, Qz, ne_eq] at hc19
  refine Zs (Zr ?_)
  refine Xa ?_
  refine Ze (Zt (w_ret (b_ret (t_ret ?_))))
  refine ret1 rfl rfl (fun w' hm => ⟨?_, hm.base (by simp)⟩)
  rfl
 exfalso
 rw [hb21, hb18] at hc19
 revert hc19; simp
theorem g_PlaceWZ {pO : Nat} (w : World) (h0 : w.cell? ⟨pO, 0, none⟩ = some (.pointer none)) (h2 : w.cell? ⟨pO, 2, none⟩ = some (.map none)) (y : PK.Ord) (hy : y.okA) (hL : LD w) (hw : writB y = false) :
  Calls Tryz.prog 12 #[.pointer (some ⟨pO, 0, none⟩), .agg y.cells.toArray] w fun e w' => e = .returned (.int .i64 (1)) ∧ Later w w' := by
 refine enter (vs := [.pointer (some ⟨pO, 0, none⟩), .agg y.cells.toArray]) Tryz.func12 rfl Tryz.ntmps12 rfl ?_
 refine Zs (Zr ?_)
 refine x_box rfl rfl rfl rfl ?_
 intro p3
 refine Xa ?_
 refine Ze (Zt (Zs (Zs (Zr ?_))))
 refine Xm ?_
 refine Xb rfl (v_pnil (o := some ⟨pO, 0, none⟩) u27 rfl rfl) fun b9 hb9 => ?_
 refine Xm ?_
 refine x_if [] rfl rfl rfl rfl rfl (v := Value.agg y.cells.toArray) (fun hg => by obtain ⟨hg0, _⟩ := hg; subst hg0; (try simp only [Qy]); exact v_load_blk (b := p3) (e := 25) (fz := (0, 0)) (cs := y.cells.toArray) u25 rfl rfl (.head _) sz25) ?_
 refine x_call_ifb [] (c := writB y) rfl rfl rfl rfl rfl Tryz.func51 Zk (fun hg => by obtain ⟨hg0, _⟩ := hg; subst hg0; (try simp only [Qy]); refine ⟨_, rfl, ?_⟩; exact fun w1 hw1 => c_wrt y w1 hy (hL.later (hw1.base (by simp)))) fun b12 hb12 => ?_
 refine Xj rfl rfl rfl (fun hg0 => by subst hg0; (try simp only [Qy]); exact v_not rfl) fun b13 hb13 => ?_
 refine Xb rfl (v_or rfl rfl) fun b14 hb14 => ?_
 refine Ze (Zt ?_)
 refine w_cond rfl (fun hc14 => ?_) (fun hc14 => ?_)
 ·simp only [hb14, hb13, Qz, ne_eq] at hc14
  refine Zs (Zr ?_)
  refine Xa ?_
  refine Ze (Zt (w_ret (t_ret ?_)))
  refine ret1 rfl rfl (fun w' hm => ⟨?_, hm.base (by simp)⟩)
  rfl
 exfalso
 rw [hb14, hb13, hb12, hb9, hw] at hc14
 revert hc14; simp
theorem g_PlaceFZ {pO : Nat} (w : World) (h0 : w.cell? ⟨pO, 0, none⟩ = some (.pointer none)) (h2 : w.cell? ⟨pO, 2, none⟩ = some (.map none)) (y : PK.Ord) (hy : y.okA) (hL : LD w) (hw : writB y = true) :
  Calls Tryz.prog 12 #[.pointer (some ⟨pO, 0, none⟩), .agg y.cells.toArray] w fun e w' => e = .returned (.int .i64 (1)) ∧ Later w w' := by
 have hwo := (writB_iff y).1 hw
 unfold wrO at hwo
 obtain ⟨⟨y1, y2⟩, ⟨y3, y4⟩, _, _, ⟨y5, y6⟩, y7, y8⟩ := hwo
 obtain ⟨⟨k1, k2⟩, _⟩ := ln_rng (c := y.copies) (p := y.price) (q := y.price) ⟨y7, y8⟩ ⟨y5, y6⟩ ⟨y5, y6⟩
 refine enter (vs := [.pointer (some ⟨pO, 0, none⟩), .agg y.cells.toArray]) Tryz.func12 rfl Tryz.ntmps12 rfl ?_
 refine Zs (Zr ?_)
 refine x_box rfl rfl rfl rfl ?_
 intro p3
 refine Xa ?_
 refine Ze (Zt (Zs (Zs (Zr ?_))))
 refine Xm ?_
 refine Xb rfl (v_pnil (o := some ⟨pO, 0, none⟩) u27 rfl rfl) fun b9 hb9 => ?_
 refine Xm ?_
 refine x_if [] rfl rfl rfl rfl rfl (v := Value.agg y.cells.toArray) (fun hg => by obtain ⟨hg0, _⟩ := hg; subst hg0; (try simp only [Qy]); exact v_load_blk (b := p3) (e := 25) (fz := (0, 0)) (cs := y.cells.toArray) u25 rfl rfl (.head _) sz25) ?_
 refine x_call_ifb [] (c := writB y) rfl rfl rfl rfl rfl Tryz.func51 Zk (fun hg => by obtain ⟨hg0, _⟩ := hg; subst hg0; (try simp only [Qy]); refine ⟨_, rfl, ?_⟩; exact fun w1 hw1 => c_wrt y w1 hy (hL.later (hw1.base (by simp)))) fun b12 hb12 => ?_
 refine Xj rfl rfl rfl (fun hg0 => by subst hg0; (try simp only [Qy]); exact v_not rfl) fun b13 hb13 => ?_
 refine Xb rfl (v_or rfl rfl) fun b14 hb14 => ?_
 refine Ze (Zt ?_)
 refine w_cond rfl (fun hc14 => ?_) (fun hc14 => ?_)
 ·exfalso
  rw [hb14, hb13, hb12, hb9, hw] at hc14
  revert hc14; simp
 simp only [hb14, hb13, Qz, ne_eq] at hc14
 refine w_skip (Zt (Zs (Zs ?_)))
 refine rg_inv ([(p3, Obj.cells y.cells.toArray 25)]) 13 (.flt 0 (.flt 1 (.flt 2 (.flt 3 (.flt 4 (.flt 5 (.flt 6 (.flt 7 (.flt 8 (.flt 9 (.gr 10 (.gr 11 (.flt 12 .done) .nil) .nil))))))))))) (.refl _) Zk Zk ?_
 refine j_val rfl rfl (v_move rfl) ?_
 refine j_val rfl rfl (v_nilCheck rfl) ?_
 refine j_val rfl rfl (v_fieldAddr (off' := 2) u38 rfl sz36 (by decide) rfl rfl) ?_
 refine j_val rfl rfl (v_load u36 rfl rfl (at_ro (.head _) trivial h2)) ?_
 refine j_val rfl rfl (v_fieldAddr (off' := 0) u25 rfl sz3 (by decide) rfl rfl) ?_
 refine j_val rfl rfl (v_load u3 rfl rfl (at_ownL (vs := y.cells) (.head _) rfl)) ?_
 refine j_val (v := Value.tuple #[.agg (orC10 zeroO 0).toArray, .bool false]) rfl rfl (v_lookup2_nil u36 (Maps.int_keyed u3) zr100 rfl rfl (Maps.keyOf_int_mk u3 (wf_in hy.1.1))) ?_
 refine j_val rfl rfl (v_move rfl) ?_
 refine j_val rfl rfl (v_extract rfl rfl) ?_
 refine j_bool rfl rfl (v_extract rfl rfl) fun b24 hb24 => ?_
 refine j_gr ?_ j_nil
 refine x_alloc rfl rfl rfl zr100 ?_
 intro p5
 refine Ze ?_
 refine j_end (List.sublist_cons_self _ _) ?_
 refine j_gr ?_ j_nil
 refine x_store0 [] rfl rfl rfl rfl sz100 rfl rfl ?_
 refine Ze ?_
 refine j_end (List.sublist_cons_self _ _) ?_
 refine j_val rfl rfl (v_assign rfl) ?_
 refine j_done ?_
 refine Ze (Zt (Zs (Zr ?_)))
 refine Xm ?_
 refine Ze (Zt ?_)
 refine w_cond rfl (fun hc25 => ?_) (fun hc25 => ?_)
 ·exfalso
  rw [hb24] at hc25
  revert hc25; simp
 simp only [hb24, Qz, ne_eq] at hc25
 refine w_skip (Zt (Zs (Zs (Zr ?_))))
 refine Xm ?_
 refine Xv rfl (v_nilCheck rfl) ?_
 refine Xv rfl (v_fieldAddr (off' := 2) u38 rfl sz36 (by decide) rfl rfl) ?_
 refine Xv rfl (v_load u36 rfl rfl (at_ro (.head _) trivial h2)) ?_
 refine Xv (v := Value.int .i64 0) rfl (v_len_mapnil u36 rfl) ?_
 refine Xb rfl (v_geq rfl rfl) fun b31 hb31 => ?_
 refine Ze (Zt ?_)
 refine w_cond rfl (fun hc31 => ?_) (fun hc31 => ?_)
 ·exfalso
  rw [hb31] at hc31
  revert hc31; simp
 simp only [hb31, Qz, ne_eq] at hc31
 refine w_skip (Zt (Zs (Zs ?_)))
 refine rg_draw 11 [(true, 0), (true, 1), (true, 2), (true, 3), (true, 4), (true, 5), (true, 6), (true, 7), (true, 8), (true, 9), (true, 10)] Zk Zk ?_
 refine Xm ?_
 refine Xv rfl (v_nilCheck rfl) ?_
 refine Xv rfl (v_fieldAddr (off' := 0) u38 rfl sz35 (by decide) rfl rfl) ?_
 refine Xv rfl (v_load u35 rfl rfl (at_ro (.head _) trivial h0)) ?_
 refine Xv rfl (v_fieldAddr (off' := 1) u25 rfl sz3 (by decide) rfl rfl) ?_
 refine Xv rfl (v_load u3 rfl rfl (at_ownL (vs := y.cells) (.tail _ (.head _)) rfl)) ?_
 refine Xv rfl (v_fieldAddr (off' := 4) u25 rfl sz3 (by decide) rfl rfl) ?_
 refine Xv rfl (v_load u3 rfl rfl (at_ownL (vs := y.cells) (.tail _ (.head _)) rfl)) ?_
 refine Xv rfl (v_fieldAddr (off' := 5) u25 rfl sz3 (by decide) rfl rfl) ?_
 refine Xv rfl (v_load u3 rfl rfl (at_ownL (vs := y.cells) (.tail _ (.head _)) rfl)) ?_
 refine Xv rfl (v_muli rfl rfl rfl Zo) ?_
 refine x_turnf (τ := Unit) (v := Value.int .i64 1) (fun _ => True) (fun _ => [(p5, Obj.cells (orC10 zeroO 0).toArray 100), (p3, Obj.cells y.cells.toArray 25)]) rfl rfl Tryz.func52 Zk rfl (fun w1 hw1 => (g_encN (id := y.fund) hw1 (y.copies * y.price)).mono fun e w2 h => ⟨h.1, (), trivial, h.2⟩) fun _ _ => ?_
 refine Xa ?_
 refine Ze (Zt (Zs (Zr ?_)))
 refine Xm ?_
 refine Xb rfl (v_neq rfl rfl) fun b45 hb45 => ?_
 refine Ze (Zt ?_)
 refine w_cond rfl (fun hc45 => ?_) (fun hc45 => ?_)
 ·simp only [hb45, Qz, ne_eq] at hc45
  refine Zs (Zr ?_)
  refine Xm ?_
  refine Xa ?_
  refine Ze (Zt (w_ret (t_ret ?_)))
  refine ret1 rfl rfl (fun w' hm => ⟨?_, hm.base (by simp)⟩)
  rfl
 exfalso
 rw [hb45] at hc45
 revert hc45; simp
theorem g_PlaceZ {pO : Nat} (w : World) (h0 : w.cell? ⟨pO, 0, none⟩ = some (.pointer none)) (h2 : w.cell? ⟨pO, 2, none⟩ = some (.map none)) (y : PK.Ord) (hy : y.okA) (hL : LD w) : Calls Tryz.prog 12 #[.pointer (some ⟨pO, 0, none⟩), .agg y.cells.toArray] w fun e w' => e = .returned (.int .i64 (1)) ∧ Later w w' := by
 cases hw : writB y with
 | false => exact g_PlaceWZ w h0 h2 y hy hL hw
 | true => exact g_PlaceFZ w h0 h2 y hy hL hw
theorem g_PlaceWV {pO mO : Nat} (w : World) (h0 : w.cell? ⟨pO, 0, none⟩ = some (.pointer none)) (h2 : w.cell? ⟨pO, 2, none⟩ = some (.map (some mO))) (h3 : w.heap[mO]? = some (.map #[] 0)) (y : PK.Ord) (hy : y.okA) (hL : LD w) (hw : writB y = false) :
  Calls Tryz.prog 12 #[.pointer (some ⟨pO, 0, none⟩), .agg y.cells.toArray] w fun e w' => e = .returned (.int .i64 (1)) ∧ Later w w' := by
 refine enter (vs := [.pointer (some ⟨pO, 0, none⟩), .agg y.cells.toArray]) Tryz.func12 rfl Tryz.ntmps12 rfl ?_
 refine Zs (Zr ?_)
 refine x_box rfl rfl rfl rfl ?_
 intro p3
 refine Xa ?_
 refine Ze (Zt (Zs (Zs (Zr ?_))))
 refine Xm ?_
 refine Xb rfl (v_pnil (o := some ⟨pO, 0, none⟩) u27 rfl rfl) fun b9 hb9 => ?_
 refine Xm ?_
 refine x_if [] rfl rfl rfl rfl rfl (v := Value.agg y.cells.toArray) (fun hg => by obtain ⟨hg0, _⟩ := hg; subst hg0; (try simp only [Qy]); exact v_load_blk (b := p3) (e := 25) (fz := (0, 0)) (cs := y.cells.toArray) u25 rfl rfl (.head _) sz25) ?_
 refine x_call_ifb [] (c := writB y) rfl rfl rfl rfl rfl Tryz.func51 Zk (fun hg => by obtain ⟨hg0, _⟩ := hg; subst hg0; (try simp only [Qy]); refine ⟨_, rfl, ?_⟩; exact fun w1 hw1 => c_wrt y w1 hy (hL.later (hw1.base (by simp)))) fun b12 hb12 => ?_
 refine Xj rfl rfl rfl (fun hg0 => by subst hg0; (try simp only [Qy]); exact v_not rfl) fun b13 hb13 => ?_
 refine Xb rfl (v_or rfl rfl) fun b14 hb14 => ?_
 refine Ze (Zt ?_)
 refine w_cond rfl (fun hc14 => ?_) (fun hc14 => ?_)
 ·simp only [hb14, hb13, Qz, ne_eq] at hc14
  refine Zs (Zr ?_)
  refine Xa ?_
  refine Ze (Zt (w_ret (t_ret ?_)))
  refine ret1 rfl rfl (fun w' hm => ⟨?_, hm.base (by simp)⟩)
  rfl
 exfalso
 rw [hb14, hb13, hb12, hb9, hw] at hc14
 revert hc14; simp
theorem g_PlaceFV {pO mO : Nat} (w : World) (h0 : w.cell? ⟨pO, 0, none⟩ = some (.pointer none)) (h2 : w.cell? ⟨pO, 2, none⟩ = some (.map (some mO))) (h3 : w.heap[mO]? = some (.map #[] 0)) (y : PK.Ord) (hy : y.okA) (hL : LD w) (hw : writB y = true) :
  Calls Tryz.prog 12 #[.pointer (some ⟨pO, 0, none⟩), .agg y.cells.toArray] w fun e w' => e = .returned (.int .i64 (1)) ∧ Later w w' := by
 have hwo := (writB_iff y).1 hw
 unfold wrO at hwo
 obtain ⟨⟨y1, y2⟩, ⟨y3, y4⟩, _, _, ⟨y5, y6⟩, y7, y8⟩ := hwo
 obtain ⟨⟨k1, k2⟩, _⟩ := ln_rng (c := y.copies) (p := y.price) (q := y.price) ⟨y7, y8⟩ ⟨y5, y6⟩ ⟨y5, y6⟩
 refine enter (vs := [.pointer (some ⟨pO, 0, none⟩), .agg y.cells.toArray]) Tryz.func12 rfl Tryz.ntmps12 rfl ?_
 refine Zs (Zr ?_)
 refine x_box rfl rfl rfl rfl ?_
 intro p3
 refine Xa ?_
 refine Ze (Zt (Zs (Zs (Zr ?_))))
 refine Xm ?_
 refine Xb rfl (v_pnil (o := some ⟨pO, 0, none⟩) u27 rfl rfl) fun b9 hb9 => ?_
 refine Xm ?_
 refine x_if [] rfl rfl rfl rfl rfl (v := Value.agg y.cells.toArray) (fun hg => by obtain ⟨hg0, _⟩ := hg; subst hg0; (try simp only [Qy]); exact v_load_blk (b := p3) (e := 25) (fz := (0, 0)) (cs := y.cells.toArray) u25 rfl rfl (.head _) sz25) ?_
 refine x_call_ifb [] (c := writB y) rfl rfl rfl rfl rfl Tryz.func51 Zk (fun hg => by obtain ⟨hg0, _⟩ := hg; subst hg0; (try simp only [Qy]); refine ⟨_, rfl, ?_⟩; exact fun w1 hw1 => c_wrt y w1 hy (hL.later (hw1.base (by simp)))) fun b12 hb12 => ?_
 refine Xj rfl rfl rfl (fun hg0 => by subst hg0; (try simp only [Qy]); exact v_not rfl) fun b13 hb13 => ?_
 refine Xb rfl (v_or rfl rfl) fun b14 hb14 => ?_
 refine Ze (Zt ?_)
 refine w_cond rfl (fun hc14 => ?_) (fun hc14 => ?_)
 ·exfalso
  rw [hb14, hb13, hb12, hb9, hw] at hc14
  revert hc14; simp
 simp only [hb14, hb13, Qz, ne_eq] at hc14
 refine w_skip (Zt (Zs (Zs ?_)))
 refine rg_inv ([(p3, Obj.cells y.cells.toArray 25)]) 13 (.flt 0 (.flt 1 (.flt 2 (.flt 3 (.flt 4 (.flt 5 (.flt 6 (.flt 7 (.flt 8 (.flt 9 (.gr 10 (.gr 11 (.flt 12 .done) .nil) .nil))))))))))) (.refl _) Zk Zk ?_
 refine j_val rfl rfl (v_move rfl) ?_
 refine j_val rfl rfl (v_nilCheck rfl) ?_
 refine j_val rfl rfl (v_fieldAddr (off' := 2) u38 rfl sz36 (by decide) rfl rfl) ?_
 refine j_val rfl rfl (v_load u36 rfl rfl (at_ro (.head _) trivial h2)) ?_
 refine j_val rfl rfl (v_fieldAddr (off' := 0) u25 rfl sz3 (by decide) rfl rfl) ?_
 refine j_val rfl rfl (v_load u3 rfl rfl (at_ownL (vs := y.cells) (.head _) rfl)) ?_
 refine j_val (v := Value.tuple #[.agg (orC10 zeroO 0).toArray, .bool false]) rfl rfl (v_lookup2H u36 (Maps.int_keyed u3) zr100 rfl rfl (Maps.keyOf_int_mk u3 (wf_in hy.1.1)) (map_ro (.head _) trivial h3) (MapF.empty (P := Tryz.prog) (kt := 3)) rfl rfl) ?_
 refine j_val rfl rfl (v_move rfl) ?_
 refine j_val rfl rfl (v_extract rfl rfl) ?_
 refine j_bool rfl rfl (v_extract rfl rfl) fun b24 hb24 => ?_
 refine j_gr ?_ j_nil
 refine x_alloc rfl rfl rfl zr100 ?_
 intro p5
 refine Ze ?_
 refine j_end (List.sublist_cons_self _ _) ?_
 refine j_gr ?_ j_nil
 refine x_store0 [] rfl rfl rfl rfl sz100 rfl rfl ?_
 refine Ze ?_
 refine j_end (List.sublist_cons_self _ _) ?_
 refine j_val rfl rfl (v_assign rfl) ?_
 refine j_done ?_
 refine Ze (Zt (Zs (Zr ?_)))
 refine Xm ?_
 refine Ze (Zt ?_)
 refine w_cond rfl (fun hc25 => ?_) (fun hc25 => ?_)
 ·exfalso
  rw [hb24] at hc25
  revert hc25; simp
 simp only [hb24, Qz, ne_eq] at hc25
 refine w_skip (Zt (Zs (Zs (Zr ?_))))
 refine Xm ?_
 refine Xv rfl (v_nilCheck rfl) ?_
 refine Xv rfl (v_fieldAddr (off' := 2) u38 rfl sz36 (by decide) rfl rfl) ?_
 refine Xv rfl (v_load u36 rfl rfl (at_ro (.head _) trivial h2)) ?_
 refine Xv (v := Value.int .i64 ((#[] : Array MapEntry).size : Nat)) rfl (v_len_mapH (es := #[]) (clock := 0) u36 rfl (map_ro (.head _) trivial h3)) ?_
 refine Xb rfl (v_geq rfl rfl) fun b31 hb31 => ?_
 refine Ze (Zt ?_)
 refine w_cond rfl (fun hc31 => ?_) (fun hc31 => ?_)
 ·exfalso
  rw [hb31] at hc31
  revert hc31; simp
 simp only [hb31, Qz, ne_eq] at hc31
 refine w_skip (Zt (Zs (Zs ?_)))
 refine rg_draw 11 [(true, 0), (true, 1), (true, 2), (true, 3), (true, 4), (true, 5), (true, 6), (true, 7), (true, 8), (true, 9), (true, 10)] Zk Zk ?_
 refine Xm ?_
 refine Xv rfl (v_nilCheck rfl) ?_
 refine Xv rfl (v_fieldAddr (off' := 0) u38 rfl sz35 (by decide) rfl rfl) ?_
 refine Xv rfl (v_load u35 rfl rfl (at_ro (.head _) trivial h0)) ?_
 refine Xv rfl (v_fieldAddr (off' := 1) u25 rfl sz3 (by decide) rfl rfl) ?_
 refine Xv rfl (v_load u3 rfl rfl (at_ownL (vs := y.cells) (.tail _ (.head _)) rfl)) ?_
 refine Xv rfl (v_fieldAddr (off' := 4) u25 rfl sz3 (by decide) rfl rfl) ?_
 refine Xv rfl (v_load u3 rfl rfl (at_ownL (vs := y.cells) (.tail _ (.head _)) rfl)) ?_
 refine Xv rfl (v_fieldAddr (off' := 5) u25 rfl sz3 (by decide) rfl rfl) ?_
 refine Xv rfl (v_load u3 rfl rfl (at_ownL (vs := y.cells) (.tail _ (.head _)) rfl)) ?_
 refine Xv rfl (v_muli rfl rfl rfl Zo) ?_
 refine x_turnf (τ := Unit) (v := Value.int .i64 1) (fun _ => True) (fun _ => [(p5, Obj.cells (orC10 zeroO 0).toArray 100), (p3, Obj.cells y.cells.toArray 25)]) rfl rfl Tryz.func52 Zk rfl (fun w1 hw1 => (g_encN (id := y.fund) hw1 (y.copies * y.price)).mono fun e w2 h => ⟨h.1, (), trivial, h.2⟩) fun _ _ => ?_
 refine Xa ?_
 refine Ze (Zt (Zs (Zr ?_)))
 refine Xm ?_
 refine Xb rfl (v_neq rfl rfl) fun b45 hb45 => ?_
 refine Ze (Zt ?_)
 refine w_cond rfl (fun hc45 => ?_) (fun hc45 => ?_)
 ·simp only [hb45, Qz, ne_eq] at hc45
  refine Zs (Zr ?_)
  refine Xm ?_
  refine Xa ?_
  refine Ze (Zt (w_ret (t_ret ?_)))
  refine ret1 rfl rfl (fun w' hm => ⟨?_, hm.base (by simp)⟩)
  rfl
 exfalso
 rw [hb45] at hc45
 revert hc45; simp
theorem g_PlaceV {pO mO : Nat} (w : World) (h0 : w.cell? ⟨pO, 0, none⟩ = some (.pointer none)) (h2 : w.cell? ⟨pO, 2, none⟩ = some (.map (some mO))) (h3 : w.heap[mO]? = some (.map #[] 0)) (y : PK.Ord) (hy : y.okA) (hL : LD w) : Calls Tryz.prog 12 #[.pointer (some ⟨pO, 0, none⟩), .agg y.cells.toArray] w fun e w' => e = .returned (.int .i64 (1)) ∧ Later w w' := by
 cases hw : writB y with
 | false => exact g_PlaceWV w h0 h2 h3 y hy hL hw
 | true => exact g_PlaceFV w h0 h2 h3 y hy hL hw
theorem g_SortedN (Bm : Nat) (w : World) (hBm : w.cell? ⟨Bm, 0, none⟩ = some (.map none)) :
  Calls Tryz.prog 65 #[.func (.func 125) #[] #[.pointer (some ⟨Bm, 0, none⟩)]] w fun e w' => e = .returned (.slice none 0 0) ∧ Later w w' := by
 have hseq : SeqGives Fence.wide 2 Tryz.prog 125 #[.pointer (some ⟨Bm, 0, none⟩)] encZ (fun ss : List Int => ss = []) 0 w :=
  AnyZI.keys_gives_nil (ρ := Tryz.keysO_ren) { Tryz.keysO with } Fence.wide _ trivial rfl Bm w (cell_lt (p := ⟨Bm, 0, none⟩) hBm) hBm
 have cS := AnyZI.sorted_in Tryz.sorted Fence.wide 5 trivial trivial trivial trivial rfl (by omega) (sortsA _) (enters_of Tryz.func124 Zk rfl) 125 #[.pointer (some ⟨Bm, 0, none⟩)] trivial (enters_of Tryz.func125 Zk rfl) _ 0 (Nat.zero_le _) (by omega) _ hseq
 change CallsIn _ _ Tryz.prog 65 _ _ _ at cS
 refine ((callsIn_wide (n := 5)).1 cS).mono ?_
 rintro e w' ⟨v, ss, rfl, rfl, hrow, hnil, hbel⟩
 obtain rfl : v = .slice none 0 0 := hnil.2 rfl
 exact ⟨rfl, ⟨hbel.os, hbel.tape, hbel.output, hbel.size, hbel.block⟩⟩
theorem g_AllZ {pO : Nat} (w : World) (h2 : w.cell? ⟨pO, 2, none⟩ = some (.map none)) :
  Calls Tryz.prog 20 #[.pointer (some ⟨pO, 0, none⟩)] w fun e w' => e = .returned (.slice none 0 0) ∧ Later w w' := by
 refine enter (vs := [.pointer (some ⟨pO, 0, none⟩)]) Tryz.func20 rfl Tryz.ntmps20 rfl ?_
 refine Zs (Zr ?_)
 refine Xa ?_
 refine Ze (Zt (Zs (Zs (Zr ?_))))
 refine Xm ?_
 refine Xv (v := Value.bool false) rfl (v_pnil (o := some ⟨pO, 0, none⟩) u27 rfl rfl) ?_
 refine Ze (Zt ?_)
 refine w_cond rfl (fun hc4 => ?_) (fun hc4 => ?_)
 ·cases hc4
 skip
 refine w_skip (Zt (Zs (Zr ?_)))
 refine Xm ?_
 refine Xv rfl (v_nilCheck rfl) ?_
 refine Xv rfl (v_fieldAddr (off' := 2) u38 rfl sz36 (by decide) rfl rfl) ?_
 refine Xv rfl (v_load u36 rfl rfl (at_ro (.head _) trivial h2)) ?_
 refine x_own (τ := Nat) (fun Bm => .func (.func 125) #[] #[.pointer (some ⟨Bm, 0, none⟩)]) (fun _ => True) (fun Bm => [(Bm, Obj.cells #[.map none] 36)]) rfl rfl rfl Tryz.func66 Zk rfl (fun w1 hw1 => (g_KeysO none w1).mono fun e w2 ⟨Bm, h1, h2, h3⟩ => ⟨Bm, h1, h2, trivial, (hw1.join2 h3).to (by simp)⟩) fun Bm _ => ?_
 refine x_call (R := fun v wa wb => v = .slice none 0 0) rfl rfl rfl Tryz.func65 Zk rfl (fun w1 hw1 => (g_SortedN Bm w1 (at_ownL (vs := [.map none]) (.head _) rfl w1 hw1)).mono fun e w2 ⟨h1, h2⟩ => ⟨_, h1, h2, rfl⟩) fun v10 wa10 wb10 hm10 hl10 hR10 => ?_
 subst hR10
 refine Xa ?_
 refine Ze (Zt (w_ret ?_))
 exact ret1 rfl rfl (fun w' hm => ⟨rfl, hm.base (by simp)⟩)
theorem g_EncZ {pO : Nat} (w : World) (h2 : w.cell? ⟨pO, 2, none⟩ = some (.map none)) :
  Calls Tryz.prog 18 #[.pointer (some ⟨pO, 0, none⟩)] w fun e w' => e = .returned (.string ⟨(intsG (encL [])).toArray⟩) ∧ Later w w' := by
 refine enter (vs := [.pointer (some ⟨pO, 0, none⟩)]) Tryz.func18 rfl Tryz.ntmps18 rfl ?_
 refine Zs (Zr ?_)
 refine Xa ?_
 refine Ze (Zt (Zs (Zs (Zr ?_))))
 refine Xm ?_
 refine Xv (v := Value.bool false) rfl (v_pnil (o := some ⟨pO, 0, none⟩) u27 rfl rfl) ?_
 refine Ze (Zt ?_)
 refine w_cond rfl (fun hc8 => ?_) (fun hc8 => ?_)
 ·cases hc8
 skip
 refine w_skip (Zt (Zs (Zr ?_)))
 refine Xa ?_
 refine Ze (Zt (Zs (Zs (Zr ?_))))
 refine Xm ?_
 refine x_callv rfl rfl rfl Tryz.func20 Zk rfl (fun w1 hw1 => g_AllZ w1 (at_ro (.head _) trivial h2 w1 hw1)) ?_
 refine Xv rfl (v_len_slice u44 rfl) ?_
 refine Xm ?_
 refine Ze (Zt (w_block ?_))
 refine w_loop (σ := Unit) (fun x => True) (fun x => [(0, Value.pointer (some ⟨pO, 0, none⟩)), (3, .slice none 0 0), (10, .slice none 0 0), (11, Value.int .i64 0), (12, Value.int .i64 0)]) (fun x => []) (fun x => [(w, fun _ => True)]) (fun x => 0) (()) (trivial) (l_start Zu (fun _ h => h)) ?_
 rintro x _
 refine w_state ([(0, Value.pointer (some ⟨pO, 0, none⟩)), (3, .slice none 0 0), (10, .slice none 0 0), (11, Value.int .i64 0), (12, Value.int .i64 0)]) ([]) ([(w, fun _ => True)]) ?_
 refine Zs (Zr ?_)
 refine Xb rfl (v_lss rfl rfl) fun b13 hb13 => ?_
 refine Ze (Zt (Zs ?_))
 refine w_cond rfl (fun hc13 => ?_) (fun hc13 => ?_)
 ·exfalso
  rw [hb13] at hc13
  revert hc13; simp
 simp only [hb13, Qz, ne_eq] at hc13
 refine w_exit ?_
 refine t_exit ?_
 refine t_exit ?_
 refine b_hit ?_
 refine Zt (Zs (Zr ?_))
 refine Xm ?_
 refine x_callv (v := Value.string ⟨(intsG (encL [])).toArray⟩) rfl rfl rfl Tryz.func64 Zk rfl (fun w1 hw1 => c_Ints (l := []) (D := fun _ => True) w1 (nil_rd _ _ _) (by decide)) ?_
 refine Xa ?_
 refine Ze (Zt (w_ret ?_))
 refine ret1 rfl rfl (fun w' hm => ⟨?_, hm.base (by simp)⟩)
 rfl
def wantO (a b c : Int) : PK.Ord := ⟨1 + a % 6, 1 + b % 4, 1, a % 3, c % 6, 100 * (b % 13), 0, 2, 5⟩
theorem mod_b (n : Int) {m : Int} (h : 0 < m) : 0 ≤ n % m ∧ n % m < m := ⟨Int.emod_nonneg n (by omega), Int.emod_lt_of_pos n h⟩
theorem want_ok (a b c : Int) : (wantO a b c).okA := by
 have h1 := mod_b a (m := 6) (by decide); have h2 := mod_b b (m := 4) (by decide); have h3 := mod_b a (m := 3) (by decide); have h4 := mod_b c (m := 6) (by decide); have h5 := mod_b b (m := 13) (by decide)
 refine ⟨⟨?_, ?_, ?_, ?_, ?_, ?_⟩, ?_, ?_, ?_⟩ <;> (unfold wantO in64; dsimp only; omega)
theorem g_Want (k a b c : Int) (w : World) (ha : in64 a) (hb : in64 b) (hc : in64 c) :
  Calls Tryz.prog 19 #[.agg [Value.int .i64 k, .int .i64 a, .int .i64 b, .int .i64 c].toArray] w fun e w' => e = .returned (.agg (wantO a b c).cells.toArray) ∧ Later w w' := by
 refine enter (vs := [.agg [Value.int .i64 k, .int .i64 a, .int .i64 b, .int .i64 c].toArray]) Tryz.func19 rfl Tryz.ntmps19 rfl ?_
 refine Zs (Zr ?_)
 refine x_box rfl rfl rfl rfl ?_
 intro p1
 refine x_alloc rfl rfl rfl zr25 ?_
 intro p2
 refine Ze (Zt (Zs ?_))
 refine rg_draw 20 [(true, 0), (true, 1), (true, 2), (true, 3), (true, 4), (true, 5), (true, 6), (true, 7), (true, 8), (true, 9), (true, 10), (true, 11), (true, 12), (true, 13), (true, 14), (true, 15), (true, 16), (true, 17), (true, 18), (true, 19)] Zk Zk ?_
 refine Xv rfl (v_fieldAddr (off' := 1) u42 rfl sz3 (by decide) rfl rfl) ?_
 refine Xv rfl (v_load u3 rfl rfl (at_ownL (vs := [Value.int .i64 k, .int .i64 a, .int .i64 b, .int .i64 c]) (.tail _ (.head _)) rfl)) ?_
 refine x_callv (v := Value.int .i64 (a % 6)) rfl rfl rfl Tryz.func43 Zk rfl (fun w1 hw1 => c_Md a 6 w1 ha (by decide)) ?_
 have hm5 := mod_b a (m := 6) (by decide)
 refine Xv rfl (v_addi rfl rfl rfl Zo) ?_
 refine Xv rfl (v_fieldAddr (off' := 2) u42 rfl sz3 (by decide) rfl rfl) ?_
 refine Xv rfl (v_load u3 rfl rfl (at_ownL (vs := [Value.int .i64 k, .int .i64 a, .int .i64 b, .int .i64 c]) (.tail _ (.head _)) rfl)) ?_
 refine x_callv (v := Value.int .i64 (b % 4)) rfl rfl rfl Tryz.func43 Zk rfl (fun w1 hw1 => c_Md b 4 w1 hb (by decide)) ?_
 have hm9 := mod_b b (m := 4) (by decide)
 refine Xv rfl (v_addi rfl rfl rfl Zo) ?_
 refine Xv rfl (v_fieldAddr (off' := 1) u42 rfl sz3 (by decide) rfl rfl) ?_
 refine Xv rfl (v_load u3 rfl rfl (at_ownL (vs := [Value.int .i64 k, .int .i64 a, .int .i64 b, .int .i64 c]) (.tail _ (.head _)) rfl)) ?_
 refine x_callv (v := Value.int .i64 (a % 3)) rfl rfl rfl Tryz.func43 Zk rfl (fun w1 hw1 => c_Md a 3 w1 ha (by decide)) ?_
 have hm13 := mod_b a (m := 3) (by decide)
 refine Xv (v := Value.agg #[.int .i64 1, .int .i64 (a % 3)]) rfl (v_buildL (cs := [.int .i64 1, .int .i64 (a % 3)]) (places := [(0, 1), (1, 1)]) u23 zr23 Zk rfl rfl) ?_
 refine Xv rfl (v_fieldAddr (off' := 3) u42 rfl sz3 (by decide) rfl rfl) ?_
 refine Xv rfl (v_load u3 rfl rfl (at_ownL (vs := [Value.int .i64 k, .int .i64 a, .int .i64 b, .int .i64 c]) (.tail _ (.head _)) rfl)) ?_
 refine x_callv (v := Value.int .i64 (c % 6)) rfl rfl rfl Tryz.func43 Zk rfl (fun w1 hw1 => c_Md c 6 w1 hc (by decide)) ?_
 have hm17 := mod_b c (m := 6) (by decide)
 refine Xv rfl (v_fieldAddr (off' := 2) u42 rfl sz3 (by decide) rfl rfl) ?_
 refine Xv rfl (v_load u3 rfl rfl (at_ownL (vs := [Value.int .i64 k, .int .i64 a, .int .i64 b, .int .i64 c]) (.tail _ (.head _)) rfl)) ?_
 refine x_callv (v := Value.int .i64 (b % 13)) rfl rfl rfl Tryz.func43 Zk rfl (fun w1 hw1 => c_Md b 13 w1 hb (by decide)) ?_
 have hm20 := mod_b b (m := 13) (by decide)
 refine Xv rfl (v_muli rfl rfl rfl Zo) ?_
 refine Xv (v := Value.agg (wantO a b c).cells.toArray) rfl (v_buildL (cs := (wantO a b c).cells) (places := [(0, 1), (1, 1), (2, 2), (4, 1), (5, 1), (6, 1), (7, 1), (8, 1)]) u25 zr25 Zk rfl rfl) ?_
 refine x_store0 [] rfl rfl rfl rfl sz25 rfl rfl ?_
 refine Ze (Zt (w_ret ?_))
 exact retc (cs := (wantO a b c).cells.toArray) rfl rfl (.head _) u25 rfl sz25 (fun w' hm => ⟨rfl, hm.base (by simp)⟩)
open Go.RowKit Go.PK
theorem g_RNew (w : World) :
  Calls Tryz.prog 21 #[] w fun e w' => ∃ q : Nat, e = .returned (.pointer (some ⟨q, 0, none⟩)) ∧ Mem w' [(q, Obj.cells [Value.slice none 0 0].toArray 122)] [(w, fun _ => True)] := by
 refine enter (vs := []) Tryz.func21 rfl Tryz.ntmps21 rfl ?_
 refine Zs (Zr ?_)
 refine Xa ?_
 refine Ze (Zt (Zs (Zr ?_)))
 refine Xv (v := Value.agg [Value.slice none 0 0].toArray) rfl (v_buildL (cs := [Value.slice none 0 0]) (places := [(0, 1)]) u122 zr122 Zk rfl rfl) ?_
 refine x_box rfl rfl rfl rfl ?_
 intro p2
 refine Xa ?_
 refine Ze (Zt (w_ret ?_))
 exact ret1 rfl rfl (fun w' hm => ⟨_, rfl, hm⟩)
set_option maxHeartbeats 4000000 in
theorem lawNil (x : PK.Ord) (t : ByteArray) (w : World) (hx : x.okA) (hL : LD w) :
  Calls Tryz.prog 3 #[.agg x.cells.toArray, .string t] w fun e w' => e = .returned (.bool (true)) ∧ Later w w' := by
 refine enter (vs := [.agg x.cells.toArray, .string t]) Tryz.func3 rfl Tryz.ntmps3 rfl ?_
 refine Zs (Zr ?_)
 refine x_box rfl rfl rfl rfl ?_
 intro p2
 refine Xa ?_
 refine Ze (Zt (Zs (Zr ?_)))
 refine x_callb rfl rfl rfl Tryz.func10 Zk rfl (fun w1 hw1 => c_sane w1 (hL.later (hw1.base (by simp)))) fun b15 hb15 => ?_
 obtain rfl : b15 = true := hb15
 refine Xa ?_
 refine Ze (Zt (Zs (Zr ?_)))
 refine Xa ?_
 refine Ze (Zt (Zs (Zr ?_)))
 refine Xm ?_
 refine Xv rfl (v_fieldAddr (off' := 0) u25 rfl sz3 (by decide) rfl rfl) ?_
 refine Xv rfl (v_load u3 rfl rfl (at_ownL (vs := x.cells) Zh rfl)) ?_
 refine x_callv (v := Value.tuple #[.agg zeroO.cells.toArray, .bool false]) rfl rfl rfl Tryz.func11 Zk rfl (fun w1 hw1 => g_OrdN x.id w1) ?_
 refine Xm ?_
 refine Xv rfl (v_extract rfl rfl) ?_
 refine Xb rfl (v_extract rfl rfl) fun b22 hb22 => ?_
 obtain rfl : b22 = false := hb22
 refine x_alloc rfl rfl rfl zr25 ?_
 intro p7
 refine x_store0 [] rfl rfl rfl rfl sz25 rfl rfl ?_
 refine Xa ?_
 refine Ze (Zt (Zs (Zr ?_)))
 refine Xm ?_
 refine Xv rfl (v_load_blk (e := 25) (fz := (0, 0)) (cs := x.cells.toArray) u25 rfl rfl Zh sz25) ?_
 refine x_callv (v := Value.int .i64 1) rfl rfl rfl Tryz.func12 Zk rfl (fun w1 hw1 => g_PlaceN x w1) ?_
 refine Xb rfl (v_eql rfl rfl) fun b26 hb26 => ?_
 obtain rfl : b26 = true := hb26.trans (decide_eq_true rfl)
 refine Xm ?_
 refine x_valg rfl rfl rfl rfl rfl (v_move rfl) ?_
 refine x_valg rfl rfl rfl rfl rfl (v_move rfl) ?_
 refine x_callvg (v := Value.int .i64 1) rfl rfl rfl rfl rfl Tryz.func13 Zk rfl (fun w1 hw1 => g_AnswerN t w1) ?_
 refine x_boolg rfl rfl rfl rfl rfl (v_eql rfl rfl) fun b31 hb31 => ?_
 obtain rfl : b31 = true := hb31.trans (decide_eq_true rfl)
 refine Xb rfl (v_and rfl rfl) fun b32 hb32 => ?_
 obtain rfl : b32 = true := hb32
 refine Xm ?_
 refine x_valg rfl rfl rfl rfl rfl (v_move rfl) ?_
 refine x_callvg (v := Value.int .i64 1) rfl rfl rfl rfl rfl Tryz.func14 Zk rfl (fun w1 hw1 => g_ReceiveN 1 1 w1) ?_
 refine x_boolg rfl rfl rfl rfl rfl (v_eql rfl rfl) fun b36 hb36 => ?_
 obtain rfl : b36 = true := hb36.trans (decide_eq_true rfl)
 refine Xb rfl (v_and rfl rfl) fun b37 hb37 => ?_
 obtain rfl : b37 = true := hb37
 refine Xm ?_
 refine x_valg rfl rfl rfl rfl rfl (v_move rfl) ?_
 refine x_valg rfl rfl rfl rfl rfl (v_move rfl) ?_
 refine x_callvg (v := Value.int .i64 1) rfl rfl rfl rfl rfl Tryz.func15 Zk rfl (fun w1 hw1 => g_InvoiceN t w1) ?_
 refine x_boolg rfl rfl rfl rfl rfl (v_eql rfl rfl) fun b42 hb42 => ?_
 obtain rfl : b42 = true := hb42.trans (decide_eq_true rfl)
 refine Xb rfl (v_and rfl rfl) fun b43 hb43 => ?_
 obtain rfl : b43 = true := hb43
 refine Xm ?_
 refine x_valg rfl rfl rfl rfl rfl (v_move rfl) ?_
 refine x_callvg (v := Value.int .i64 1) rfl rfl rfl rfl rfl Tryz.func16 Zk rfl (fun w1 hw1 => g_CancelN 1 w1) ?_
 refine x_boolg rfl rfl rfl rfl rfl (v_eql rfl rfl) fun b47 hb47 => ?_
 obtain rfl : b47 = true := hb47.trans (decide_eq_true rfl)
 refine Xb rfl (v_and rfl rfl) fun b48 hb48 => ?_
 obtain rfl : b48 = true := hb48
 refine Xa ?_
 refine Ze (Zt (Zs (Zr ?_)))
 refine Xv (v := Value.agg [Value.pointer none, .int .i64 0, .map none].toArray) rfl (v_buildL (cs := [Value.pointer none, .int .i64 0, .map none]) (places := [(0, 1), (1, 1), (2, 1)]) u38 zr38 Zk rfl rfl) ?_
 refine x_box rfl rfl rfl rfl ?_
 intro p50
 refine Xa ?_
 refine Ze (Zt (Zs (Zr ?_)))
 refine x_own (τ := Nat × Nat) (fun x => Value.pointer (some ⟨x.1, 0, none⟩)) (fun _ => True) (fun z => (z.1, Obj.cells [Value.pointer none, .int .i64 (min (max 0 0) 1000000), .map (some z.2)].toArray 38) :: (z.2, Obj.map #[] 0) :: [(p50, Obj.cells [Value.pointer none, .int .i64 0, .map none].toArray 38), (p7, Obj.cells zeroO.cells.toArray 25), (p2, Obj.cells x.cells.toArray 25)]) rfl rfl rfl Tryz.func17 Zk rfl (fun w1 hw1 => (g_New0 w1).mono fun e w2 ⟨x, h1, h2⟩ => ⟨x, h1, h2.base (by simp), trivial, (hw1.join2 h2).to (by first | rfl | (simp; rfl) | (simp; exact ⟨rfl, rfl, rfl⟩))⟩) ?_
 rintro ⟨pO, mO⟩ _
 refine Xa ?_
 refine Ze (Zt (Zs (Zs (Zr ?_))))
 refine Xm ?_
 refine Xb rfl (v_pnil (o := some ⟨pO, 0, none⟩) u27 rfl rfl) fun b53 hb53 => ?_
 obtain rfl : b53 = false := hb53
 refine Ze (Zt ?_)
 refine w_cond rfl (fun hc53 => ?_) (fun hc53 => ?_)
 ·cases hc53
 skip
 refine w_skip (Zt (Zs (Zr ?_)))
 refine Xm ?_
 refine Xv rfl (v_load_blk (e := 25) (fz := (0, 0)) (cs := x.cells.toArray) u25 rfl rfl Zh sz25) ?_
 refine x_callv (v := Value.int .i64 1) rfl rfl rfl Tryz.func12 Zk rfl (fun w1 hw1 => g_PlaceZ (pO := p50) w1 (at_ownL (vs := [Value.pointer none, .int .i64 0, .map none]) Zh rfl w1 hw1) (at_ownL (vs := [Value.pointer none, .int .i64 0, .map none]) Zh rfl w1 hw1) x hx (hL.later (hw1.base (by simp)))) ?_
 refine Xa ?_
 refine Ze (Zt (Zs (Zr ?_)))
 refine Xm ?_
 refine Xm ?_
 refine Xv rfl (v_load_blk (e := 25) (fz := (0, 0)) (cs := x.cells.toArray) u25 rfl rfl Zh sz25) ?_
 refine x_callv (v := Value.int .i64 1) rfl rfl rfl Tryz.func12 Zk rfl (fun w1 hw1 => g_PlaceV (pO := pO) (mO := mO) w1 (at_ownL (vs := [Value.pointer none, .int .i64 (min (max 0 0) 1000000), .map (some mO)]) Zh rfl w1 hw1) (at_ownL (vs := [Value.pointer none, .int .i64 (min (max 0 0) 1000000), .map (some mO)]) Zh rfl w1 hw1) (hw1.own_at (mO, _) Zh) x hx (hL.later (hw1.base (by simp)))) ?_
 refine Xb rfl (v_eql rfl rfl) fun b61 hb61 => ?_
 obtain rfl : b61 = true := hb61.trans (decide_eq_true rfl)
 refine Xm ?_
 refine x_valg rfl rfl rfl rfl rfl (v_move rfl) ?_
 refine x_boolg rfl rfl rfl rfl rfl (v_neq rfl rfl) fun b64 hb64 => ?_
 obtain rfl : b64 = true := hb64.trans (decide_eq_true (by decide))
 refine Xb rfl (v_and rfl rfl) fun b65 hb65 => ?_
 obtain rfl : b65 = true := hb65
 refine Xm ?_
 refine x_valg rfl rfl rfl rfl rfl (v_move rfl) ?_
 refine x_callvg (v := Value.string ⟨(intsG (encL [])).toArray⟩) rfl rfl rfl rfl rfl Tryz.func18 Zk rfl (fun w1 hw1 => g_EncZ (pO := p50) w1 (at_ownL (vs := [Value.pointer none, .int .i64 0, .map none]) Zh rfl w1 hw1)) ?_
 refine x_valg rfl rfl rfl rfl rfl (v_move rfl) ?_
 refine x_callvg (v := Value.string ⟨(intsG (encL [])).toArray⟩) rfl rfl rfl rfl rfl Tryz.func18 Zk rfl (fun w1 hw1 => g_EncO (pO := pO) (mO := mO) (es := #[]) (ck := 0) (L := []) w1 List.Pairwise.nil (Nat.zero_le _) (fun e he => by cases he) (by rw [fOL_nil]; exact MapC.empty) (at_ownL (vs := [Value.pointer none, .int .i64 (min (max 0 0) 1000000), .map (some mO)]) Zh rfl w1 hw1) (hw1.own_at (mO, _) Zh)) ?_
 refine x_boolg rfl rfl rfl rfl rfl (v_seql rfl rfl) fun b71 hb71 => ?_
 obtain rfl : b71 = true := hb71.trans (decide_eq_true rfl)
 refine Xb rfl (v_and rfl rfl) fun b72 hb72 => ?_
 obtain rfl : b72 = true := hb72
 refine Xm ?_
 refine x_valg rfl rfl rfl rfl rfl (v_move rfl) ?_
 refine x_valg rfl rfl rfl rfl rfl (v_fieldAddr (off' := 0) u25 rfl sz3 (by decide) rfl rfl) ?_
 refine x_valg rfl rfl rfl rfl rfl (v_load u3 rfl rfl (at_ownL (vs := x.cells) Zh rfl)) ?_
 refine x_callvg (v := Value.int .i64 32) rfl rfl rfl rfl rfl Tryz.func14 Zk rfl (fun w1 hw1 => g_ReceiveZ (pO := p50) w1 (at_ownL (vs := [Value.pointer none, .int .i64 0, .map none]) Zh rfl w1 hw1) (at_ownL (vs := [Value.pointer none, .int .i64 0, .map none]) Zh rfl w1 hw1) hx.1.1 1) ?_
 refine x_boolg rfl rfl rfl rfl rfl (v_eql rfl rfl) fun b78 hb78 => ?_
 obtain rfl : b78 = true := hb78.trans (decide_eq_true rfl)
 refine Xb rfl (v_and rfl rfl) fun b79 hb79 => ?_
 obtain rfl : b79 = true := hb79
 refine Xm ?_
 refine x_valg rfl rfl rfl rfl rfl (v_move rfl) ?_
 refine x_valg rfl rfl rfl rfl rfl (v_fieldAddr (off' := 0) u25 rfl sz3 (by decide) rfl rfl) ?_
 refine x_valg rfl rfl rfl rfl rfl (v_load u3 rfl rfl (at_ownL (vs := x.cells) Zh rfl)) ?_
 refine x_callvg (v := Value.int .i64 32) rfl rfl rfl rfl rfl Tryz.func16 Zk rfl (fun w1 hw1 => g_CancelZ (pO := p50) w1 (at_ownL (vs := [Value.pointer none, .int .i64 0, .map none]) Zh rfl w1 hw1) (at_ownL (vs := [Value.pointer none, .int .i64 0, .map none]) Zh rfl w1 hw1) hx.1.1) ?_
 refine x_boolg rfl rfl rfl rfl rfl (v_eql rfl rfl) fun b85 hb85 => ?_
 obtain rfl : b85 = true := hb85.trans (decide_eq_true rfl)
 refine Xb rfl (v_and rfl rfl) fun b86 hb86 => ?_
 obtain rfl : b86 = true := hb86
 refine Xa ?_
 refine Ze (Zt (Zs (Zr ?_)))
 refine Xv (v := Value.agg [Value.int .i64 0, .int .i64 1, .int .i64 1, .int .i64 1].toArray) rfl (v_buildL (cs := [Value.int .i64 0, .int .i64 1, .int .i64 1, .int .i64 1]) (places := [(0, 1), (1, 1), (2, 1), (3, 1)]) u42 zr42 Zk rfl rfl) ?_
 refine x_callv (v := Value.agg (wantO 1 1 1).cells.toArray) rfl rfl rfl Tryz.func19 Zk rfl (fun w1 hw1 => g_Want 0 1 1 1 w1 (by unfold in64; decide) (by unfold in64; decide) (by unfold in64; decide)) ?_
 refine x_alloc rfl rfl rfl zr25 ?_
 intro p14
 refine x_store0 [] rfl rfl rfl rfl sz25 rfl rfl ?_
 refine Ze (Zt (Zs (Zr ?_)))
 refine Xm ?_
 refine Xm ?_
 refine x_valg rfl rfl rfl rfl rfl (v_move rfl) ?_
 refine x_boolg rfl rfl rfl rfl rfl (v_not rfl) fun b92 hb92 => ?_
 obtain rfl : b92 = true := hb92
 refine Xb rfl (v_and rfl rfl) fun b93 hb93 => ?_
 obtain rfl : b93 = true := hb93
 refine Xm ?_
 refine x_valg rfl rfl rfl rfl rfl (v_move rfl) ?_
 refine x_callvg (v := Value.slice none 0 0) rfl rfl rfl rfl rfl Tryz.func20 Zk rfl (fun w1 hw1 => g_AllN w1) ?_
 refine x_valg rfl rfl rfl rfl rfl (v_len_slice u44 rfl) ?_
 refine x_boolg rfl rfl rfl rfl rfl (v_eql rfl rfl) fun b98 hb98 => ?_
 obtain rfl : b98 = true := hb98.trans (decide_eq_true rfl)
 refine Xb rfl (v_and rfl rfl) fun b99 hb99 => ?_
 obtain rfl : b99 = true := hb99
 refine Xm ?_
 refine x_valg rfl rfl rfl rfl rfl (v_move rfl) ?_
 refine x_callvg (v := Value.string ⟨#[]⟩) rfl rfl rfl rfl rfl Tryz.func18 Zk rfl (fun w1 hw1 => g_EncN w1) ?_
 refine x_boolg rfl rfl rfl rfl rfl (v_seql rfl rfl) fun b103 hb103 => ?_
 obtain rfl : b103 = true := hb103.trans (decide_eq_true rfl)
 refine Xb rfl (v_and rfl rfl) fun b104 hb104 => ?_
 obtain rfl : b104 = true := hb104
 refine Xm ?_
 refine x_valg rfl rfl rfl rfl rfl (v_move rfl) ?_
 refine Xb rfl (v_and rfl rfl) fun b107 hb107 => ?_
 obtain rfl : b107 = true := hb107
 refine Xm ?_
 refine x_valg rfl rfl rfl rfl rfl (v_move rfl) ?_
 refine Xb rfl (v_and rfl rfl) fun b110 hb110 => ?_
 obtain rfl : b110 = true := hb110
 refine Xm ?_
 refine x_valg rfl rfl rfl rfl rfl (v_move rfl) ?_
 refine x_valg rfl rfl rfl rfl rfl (v_load_blk (e := 25) (fz := (0, 0)) (cs := (wantO 1 1 1).cells.toArray) u25 rfl rfl Zh sz25) ?_
 refine x_callvg (v := Value.int .i64 1) rfl rfl rfl rfl rfl Tryz.func12 Zk rfl (fun w1 hw1 => g_PlaceZ (pO := p50) w1 (at_ownL (vs := [Value.pointer none, .int .i64 0, .map none]) Zh rfl w1 hw1) (at_ownL (vs := [Value.pointer none, .int .i64 0, .map none]) Zh rfl w1 hw1) (wantO 1 1 1) (want_ok 1 1 1) (hL.later (hw1.base (by simp)))) ?_
 refine x_boolg rfl rfl rfl rfl rfl (v_eql rfl rfl) fun b115 hb115 => ?_
 obtain rfl : b115 = true := hb115.trans (decide_eq_true rfl)
 refine Xb rfl (v_and rfl rfl) fun b116 hb116 => ?_
 obtain rfl : b116 = true := hb116
 refine Xm ?_
 refine x_call_g (R := fun v wa wb => ∃ q : Nat, v = .pointer (some ⟨q, 0, none⟩)) rfl rfl rfl rfl rfl Tryz.func21 Zk rfl (fun w1 hw1 => (g_RNew w1).mono fun e w2 ⟨q, h1, h2⟩ => ⟨_, h1, h2.base (by simp), q, rfl⟩) fun v118 wa118 wb118 hm118 hl118 hR118 => ?_
 obtain ⟨q118, rfl⟩ := hR118
 refine x_boolg rfl rfl rfl rfl rfl (v_nep (p := some ⟨q118, 0, none⟩) u46 rfl rfl) fun b119 hb119 => ?_
 obtain rfl : b119 = true := hb119
 refine Xb rfl (v_and rfl rfl) fun b120 hb120 => ?_
 obtain rfl : b120 = true := hb120
 refine Xa ?_
 refine Ze (Zt (w_ret ?_))
 exact ret1 rfl rfl (fun w' hm => ⟨rfl, hm.base (by simp)⟩)
open Go.RowKit Go.PK
def laidL : List (String × DataW Unit) := [("math/bits.deBruijn32tab", Rows.laid_math_bits_deBruijn32tab), ("math/bits.deBruijn64tab", Rows.laid_math_bits_deBruijn64tab), ("internal/strconv.uint64pow10", Rows.laid_internal_strconv_uint64pow10), ("unicode/utf8.acceptRanges", Rows.laid_unicode_utf8_acceptRanges), ("strconv.ErrRange", Rows.laid_strconv_ErrRange), ("strconv.ErrSyntax", Rows.laid_strconv_ErrSyntax), ("unicode/utf8.first", Rows.laid_unicode_utf8_first)]
theorem noHandle {W : World} (h : laidMetH Tryz.prog laidL W) : laidMet Tryz.prog laidL W := by
 have h1 := (laidMetH_iff.1 h).1
 rwa [show (laidL.filter fun x => x.2.handleName?.isNone) = laidL from by kernel_rfl] at h1
theorem laid_tab {W : World} (h : laidMet Tryz.prog laidL W) : Lib.TabIs Tryz.prog W "internal/strconv.uint64pow10" .u64 Lib.pow10Tab := by
 have h1 := h.filter fun x => x.1 == "internal/strconv.uint64pow10"
 have e : (laidL.filter fun x => x.1 == "internal/strconv.uint64pow10") = [("internal/strconv.uint64pow10", Lib.tabData .u64 Lib.pow10Tab)] := by kernel_rfl
 rw [e] at h1
 exact Lib.tabIs_of_head (g := 3) (t := 289) (e := 151) (n := 20) Zk Zk Zk Zk Zk Zk h1
theorem star : "*" ++ "errors.errorString" = "*errors.errorString" := by decide
theorem row104 (u : TypeId) (h : Tryz.prog.typeName? 3 u = some "*errors.errorString") : u = 283 :=
 typeName_ptr_named (nm := "errors.errorString") (by rw [star]; kernel_rfl) Zk (by decide) u (by rw [star]; exact h)
theorem laid_syn {W : World} (h : laidMet Tryz.prog laidL W) : ∃ tp p, W.var? Tryz.prog "strconv.ErrSyntax" = some #[.iface tp p] := by
 have h1 := h.filter fun x => x.1 == "strconv.ErrSyntax"
 have e : (laidL.filter fun x => x.1 == "strconv.ErrSyntax") = [("strconv.ErrSyntax", .iface "*errors.errorString" (.ptr (.agg [.lit (.string [105, 110, 118, 97, 108, 105, 100, 32, 115, 121, 110, 116, 97, 120])])))] := by kernel_rfl
 rw [e] at h1
 obtain ⟨a0, s0, hv0, _⟩ := laid_sentinel (g := 0) (ti := 175) (tp := 283) (te := 285) (ts := 9) h1 Zk Zk u175 row104 u283 u285 rfl rfl u9 Zk Zk
 exact ⟨_, _, hv0⟩
theorem laid_rng {W : World} (h : laidMet Tryz.prog laidL W) : ∃ tp p, W.var? Tryz.prog "strconv.ErrRange" = some #[.iface tp p] := by
 have h1 := h.filter fun x => x.1 == "strconv.ErrRange"
 have e : (laidL.filter fun x => x.1 == "strconv.ErrRange") = [("strconv.ErrRange", .iface "*errors.errorString" (.ptr (.agg [.lit (.string [118, 97, 108, 117, 101, 32, 111, 117, 116, 32, 111, 102, 32, 114, 97, 110, 103, 101])])))] := by kernel_rfl
 rw [e] at h1
 obtain ⟨a0, s0, hv0, _⟩ := laid_sentinel (g := 1) (ti := 175) (tp := 283) (te := 285) (ts := 9) h1 Zk Zk u175 row104 u283 u285 rfl rfl u9 Zk Zk
 exact ⟨_, _, hv0⟩
theorem ld_of {W : World} (h : laidMetH Tryz.prog laidL W) (hS : W.ShapedOpen Tryz.prog) : LD W := ⟨laid_tab (noHandle h), Tryz.laysM146.s1_3 W hS, laid_syn (noHandle h), laid_rng (noHandle h)⟩
theorem laid_met (os : Os) (args : Array Value) : laidMet Tryz.prog laidL ((World.laidAll Tryz.prog os laidL).forCall (fun _ _ => 0) ⟨#[], args, []⟩).memory :=
 laidMet_laidAll args Zk Zk
theorem bulk_one {H : Type} (d : DataW H) : 1 ≤ Rows.uptoBulk d := by
 cases d with
 | lit l => cases l <;> simp [Rows.uptoBulk]
 | nil => simp [Rows.uptoBulk]
 | ptr d => simp [Rows.uptoBulk]
 | slice elems spare => simp [Rows.uptoBulk]
 | agg parts => simp [Rows.uptoBulk]
 | iface t d => simp [Rows.uptoBulk]
 | map entries => simp [Rows.uptoBulk]
 | held h => simp [Rows.uptoBulk]
def meas (H : Type) : Meas H := ⟨Rows.uptoBulk, Rows.uptoBulkAll, fun _ => by simp [Rows.uptoBulk], fun _ _ => by simp [Rows.uptoBulk], fun _ => by simp [Rows.uptoBulk], fun _ _ => by simp [Rows.uptoBulkAll], bulk_one⟩
open Go.RowKit Go.PK
theorem rdr_ord : Rdr Tryz.prog 25 tyOrd :=
 rdr_conv (U := tyOrdU) rfl ord_conv (rdr_struct u25 Zk (by decide) (.cons rfl (rdr_i u3 Zk) (.cons rfl (rdr_i u3 Zk) (.cons rfl (rdr_struct u23 Zk (by decide) (.cons rfl (rdr_i u3 Zk) (.cons rfl (rdr_i u3 Zk) (.nil _)))) (.cons rfl (rdr_i u3 Zk) (.cons rfl (rdr_i u3 Zk) (.cons rfl (rdr_i u3 Zk) (.cons rfl (rdr_i u3 Zk) (.cons rfl (rdr_i u3 Zk) (.nil _))))))))))
theorem top_ord {H : Type} {enc : TypeId × Value → H} {W : World} {base b0 : Nat} {sp : Nat → Bool} {held : Bool} {r : Reach} {v : Value} {d : DataW H} {ps : List MemPlace} (hval : Value.okWide Tryz.prog W r b0 25 v) (h : DataW.Trod enc Tryz.prog W base sp held 25 v d ps) : ∃ o : PK.Ord, v = .agg o.cells.toArray ∧ o.okA := by
 obtain ⟨cs, o, rfl, h1, h2⟩ := top_agg u25 rfl rdr_ord hval h
 refine ⟨o, ?_, h2⟩
 rw [← h1]
end Go.Proofs.YtifekogdhjabaaaGreatDoor
