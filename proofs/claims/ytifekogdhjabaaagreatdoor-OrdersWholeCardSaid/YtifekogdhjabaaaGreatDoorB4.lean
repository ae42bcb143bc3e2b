/- Of the proofs of YtifekogdhjabaaaGreatDoor: Facts Wa Wb, put together. -/
import Derived.Test.YtifekogdhjabaaaGreatDoorRows
import Derived.Test.YtifekogdhjabaaaGreatDoorB1
import Derived.Test.YtifekogdhjabaaaGreatDoorB2
import Derived.Test.YtifekogdhjabaaaGreatDoorB3
set_option linter.unusedVariables false
set_option linter.unusedSimpArgs false
set_option maxRecDepth 100000

namespace Go.Proofs.YtifekogdhjabaaaGreatDoor
abbrev u0 := @Tryz.underlying0
abbrev u1 := @Tryz.underlying1
abbrev u2 := @Tryz.underlying2
abbrev u3 := @Tryz.underlying3
abbrev u5 := @Tryz.underlying5
abbrev u8 := @Tryz.underlying8
abbrev u9 := @Tryz.underlying9
abbrev u23 := @Tryz.underlying23
abbrev u25 := @Tryz.underlying25
abbrev u27 := @Tryz.underlying27
abbrev u35 := @Tryz.underlying35
abbrev u36 := @Tryz.underlying36
abbrev u38 := @Tryz.underlying38
abbrev u44 := @Tryz.underlying44
abbrev u49 := @Tryz.underlying49
abbrev u52 := @Tryz.underlying52
abbrev u53 := @Tryz.underlying53
abbrev u54 := @Tryz.underlying54
abbrev u56 := @Tryz.underlying56
abbrev u64 := @Tryz.underlying64
abbrev u71 := @Tryz.underlying71
abbrev u78 := @Tryz.underlying78
abbrev u100 := @Tryz.underlying100
abbrev u113 := @Tryz.underlying113
abbrev u123 := @Tryz.underlying123
abbrev u125 := @Tryz.underlying125
abbrev u126 := @Tryz.underlying126
abbrev u130 := @Tryz.underlying130
abbrev u132 := @Tryz.underlying132
abbrev u134 := @Tryz.underlying134
abbrev u151 := @Tryz.underlying151
abbrev u162 := @Tryz.underlying162
abbrev u163 := @Tryz.underlying163
abbrev u165 := @Tryz.underlying165
abbrev u171 := @Tryz.underlying171
abbrev u173 := @Tryz.underlying173
abbrev u175 := @Tryz.underlying175
abbrev u205 := @Tryz.underlying205
abbrev u207 := @Tryz.underlying207
abbrev u235 := @Tryz.underlying235
abbrev u283 := @Tryz.underlying283
abbrev u285 := @Tryz.underlying285
theorem sz3 : (Tryz.prog.info? 3).map (·.size) = some 1 := by kernel_rfl
theorem zr3 : (Tryz.prog.info? 3).bind (·.zero) = some (.int .i64 0) := by kernel_rfl
theorem sz5 : (Tryz.prog.info? 5).map (·.size) = some 1 := by kernel_rfl
theorem zr5 : (Tryz.prog.info? 5).bind (·.zero) = some (.int .u8 0) := by kernel_rfl
theorem sz9 : (Tryz.prog.info? 9).map (·.size) = some 1 := by kernel_rfl
theorem zr9 : (Tryz.prog.info? 9).bind (·.zero) = some (.string ⟨#[]⟩) := by kernel_rfl
theorem sz23 : (Tryz.prog.info? 23).map (·.size) = some 2 := by kernel_rfl
theorem zr23 : (Tryz.prog.info? 23).bind (·.zero) = some (.agg #[.int .i64 0, .int .i64 0]) := by kernel_rfl
theorem sz25 : (Tryz.prog.info? 25).map (·.size) = some 9 := by kernel_rfl
theorem zr25 : (Tryz.prog.info? 25).bind (·.zero) = some (.agg #[.int .i64 0, .int .i64 0, .int .i64 0, .int .i64 0, .int .i64 0, .int .i64 0, .int .i64 0, .int .i64 0, .int .i64 0]) := by kernel_rfl
theorem sz35 : (Tryz.prog.info? 35).map (·.size) = some 1 := by kernel_rfl
theorem sz36 : (Tryz.prog.info? 36).map (·.size) = some 1 := by kernel_rfl
theorem zr38 : (Tryz.prog.info? 38).bind (·.zero) = some (.agg #[.pointer none, .int .i64 0, .map none]) := by kernel_rfl
theorem sz49 : (Tryz.prog.info? 49).map (·.size) = some 1 := by kernel_rfl
theorem zr49 : (Tryz.prog.info? 49).bind (·.zero) = some (.slice none 0 0) := by kernel_rfl
theorem zr53 : (Tryz.prog.info? 53).bind (·.zero) = some (.agg #[.int .i64 0, .int .i64 0, .int .i64 0, .int .i64 0]) := by kernel_rfl
theorem sz71 : (Tryz.prog.info? 71).map (·.size) = some 5 := by kernel_rfl
theorem zr71 : (Tryz.prog.info? 71).bind (·.zero) = some (.agg #[.int .i64 0, .int .i64 0, .int .i64 0, .int .i64 0, .int .i64 0]) := by kernel_rfl
theorem sz78 : (Tryz.prog.info? 78).map (·.size) = some 1 := by kernel_rfl
theorem zr78 : (Tryz.prog.info? 78).bind (·.zero) = some (.slice none 0 0) := by kernel_rfl
theorem sz100 : (Tryz.prog.info? 100).map (·.size) = some 10 := by kernel_rfl
theorem zr100 : (Tryz.prog.info? 100).bind (·.zero) = some (.agg #[.int .i64 0, .int .i64 0, .int .i64 0, .int .i64 0, .int .i64 0, .int .i64 0, .int .i64 0, .int .i64 0, .int .i64 0, .int .i64 0]) := by kernel_rfl
theorem sz123 : (Tryz.prog.info? 123).map (·.size) = some 1 := by kernel_rfl
theorem zr125 : (Tryz.prog.info? 125).bind (·.zero) = some (.agg #[.map none, .int .i64 0]) := by kernel_rfl
theorem zr126 : (Tryz.prog.info? 126).bind (·.zero) = some (.pointer none) := by kernel_rfl
theorem zr130 : (Tryz.prog.info? 130).bind (·.zero) = some (.agg #[.int .i64 0, .int .i64 0, .int .i64 0, .int .i64 0, .int .i64 0, .slice none 0 0]) := by kernel_rfl
theorem sz132 : (Tryz.prog.info? 132).map (·.size) = some 1 := by kernel_rfl
theorem sz134 : (Tryz.prog.info? 134).map (·.size) = some 2 := by kernel_rfl
theorem zr134 : (Tryz.prog.info? 134).bind (·.zero) = some (.agg #[.string ⟨#[]⟩, .slice none 0 0]) := by kernel_rfl
theorem sz151 : (Tryz.prog.info? 151).map (·.size) = some 1 := by kernel_rfl
theorem sz162 : (Tryz.prog.info? 162).map (·.size) = some 1 := by kernel_rfl
theorem sz163 : (Tryz.prog.info? 163).map (·.size) = some 1 := by kernel_rfl
theorem zr165 : (Tryz.prog.info? 165).bind (·.zero) = some (.agg #[.nilFunc, .nilFunc]) := by kernel_rfl
theorem sz171 : (Tryz.prog.info? 171).map (·.size) = some 1 := by kernel_rfl
theorem sz173 : (Tryz.prog.info? 173).map (·.size) = some 2 := by kernel_rfl
theorem zr173 : (Tryz.prog.info? 173).bind (·.zero) = some (.agg #[.pointer none, .slice none 0 0]) := by kernel_rfl
theorem sz205 : (Tryz.prog.info? 205).map (·.size) = some 4 := by kernel_rfl
theorem zr205 : (Tryz.prog.info? 205).bind (·.zero) = some (.agg #[.int .u8 0, .int .u8 0, .int .u8 0, .int .u8 0]) := by kernel_rfl
theorem zr207 : (Tryz.prog.info? 207).bind (·.zero) = some (.agg #[.int .u8 0, .int .u8 0, .int .u8 0, .int .u8 0, .string ⟨#[]⟩, .int .i64 0]) := by kernel_rfl
open Go.RowKit Go.PK
theorem c_capital (c : UInt8) (w : World) :
  Calls Tryz.prog 177 #[.int .u8 (c.toNat : Nat)] w fun e w' => e = .returned (.bool (capB c)) ∧ Later w w' := by
 refine enter (vs := [.int .u8 (c.toNat : Nat)]) Tryz.func177 rfl Tryz.ntmps177 rfl ?_
 refine Zs (Zr ?_)
 refine Xa ?_
 refine Ze (Zt (Zs (Zr ?_)))
 refine Xm ?_
 refine Xb rfl (v_geq rfl rfl) fun b4 hb4 => ?_
 refine Xm ?_
 refine Xg ?_
 refine Xj rfl rfl rfl (fun hg0 => by subst hg0; (try simp only [Qy]); exact v_leq rfl rfl) fun b7 hb7 => ?_
 refine Xb rfl (v_and rfl rfl) fun b8 hb8 => ?_
 refine Xa ?_
 refine Ze (Zt (w_ret ?_))
 refine ret1 rfl rfl (fun w' hm => ⟨?_, hm.base (by simp)⟩)
 rw [hb8, hb7, hb4, cap_a]
theorem c_rcapital (c : UInt8) (w : World) :
  Calls Tryz.prog 69 #[.int .u8 (c.toNat : Nat)] w fun e w' => e = .returned (.bool (capB c)) ∧ Later w w' := by
 refine enter (vs := [.int .u8 (c.toNat : Nat)]) Tryz.func69 rfl Tryz.ntmps69 rfl ?_
 refine Zs (Zr ?_)
 refine Xa ?_
 refine Ze (Zt (Zs (Zr ?_)))
 refine Xm ?_
 refine Xb rfl (v_geq rfl rfl) fun b4 hb4 => ?_
 refine Xm ?_
 refine Xg ?_
 refine Xj rfl rfl rfl (fun hg0 => by subst hg0; (try simp only [Qy]); exact v_leq rfl rfl) fun b7 hb7 => ?_
 refine Xb rfl (v_and rfl rfl) fun b8 hb8 => ?_
 refine Xa ?_
 refine Ze (Zt (w_ret ?_))
 refine ret1 rfl rfl (fun w' hm => ⟨?_, hm.base (by simp)⟩)
 rw [hb8, hb7, hb4, cap_a]
theorem c_rsign (c : UInt8) (w : World) :
  Calls Tryz.prog 127 #[.int .u8 (c.toNat : Nat)] w fun e w' => e = .returned (.bool (signB c)) ∧ Later w w' := by
 refine enter (vs := [.int .u8 (c.toNat : Nat)]) Tryz.func127 rfl Tryz.ntmps127 rfl ?_
 refine Zs (Zr ?_)
 refine Xa ?_
 refine Ze (Zt (Zs (Zr ?_)))
 refine Xm ?_
 refine Xb rfl (v_eql rfl rfl) fun b4 hb4 => ?_
 refine Xm ?_
 refine Xg ?_
 refine Xj rfl rfl rfl (fun hg0 => by subst hg0; (try simp only [Qy]); exact v_eql rfl rfl) fun b7 hb7 => ?_
 refine Xb rfl (v_or rfl rfl) fun b8 hb8 => ?_
 refine Xm ?_
 refine Xg ?_
 refine Xj rfl rfl rfl (fun hg0 => by subst hg0; (try simp only [Qy]); exact v_eql rfl rfl) fun b11 hb11 => ?_
 refine Xb rfl (v_or rfl rfl) fun b12 hb12 => ?_
 refine Xm ?_
 refine Xg ?_
 refine Xj rfl rfl rfl (fun hg0 => by subst hg0; (try simp only [Qy]); exact v_eql rfl rfl) fun b15 hb15 => ?_
 refine Xb rfl (v_or rfl rfl) fun b16 hb16 => ?_
 refine Xa ?_
 refine Ze (Zt (w_ret ?_))
 refine ret1 rfl rfl (fun w' hm => ⟨?_, hm.base (by simp)⟩)
 rw [hb16, hb15, hb12, hb11, hb8, hb7, hb4, sign_a]
theorem c_usual (w : World) :
  Calls Tryz.prog 174 #[] w fun e w' => e = .returned (.agg usualG.cells.toArray) ∧ Later w w' := by
 refine enter (vs := []) Tryz.func174 rfl Tryz.ntmps174 rfl ?_
 refine Zs (Zr ?_)
 refine x_alloc rfl rfl rfl zr205 ?_
 intro p0
 refine Ze (Zt (Zs (Zr ?_)))
 refine Xv rfl (v_buildL (places := [(0, 1), (1, 1), (2, 1), (3, 1)]) u205 zr205 Zk rfl rfl) ?_
 refine x_store0 [] rfl rfl rfl rfl sz205 rfl rfl ?_
 refine Ze (Zt (w_ret ?_))
 refine retc rfl rfl (.head _) u205 rfl sz205 (fun w' hm => ⟨rfl, hm.base (by simp)⟩)
theorem c_list (g : Sg) (w : World) :
  Calls Tryz.prog 201 #[.agg g.cells.toArray] w fun e w' => ∃ v, e = .returned v ∧ Later w w' ∧ sliceRd tyB (fun b => w.heap.size ≤ b) w' v (gl g) := by
 refine enter (vs := [.agg g.cells.toArray]) Tryz.func201 rfl Tryz.ntmps201 rfl ?_
 refine Zs (Zr ?_)
 refine x_box rfl rfl rfl rfl ?_
 intro p1
 refine Xa ?_
 refine Ze (Zt (Zs (Zr ?_)))
 refine Xv rfl (v_fieldAddr (off' := 0) u205 rfl sz5 (by decide) rfl rfl) ?_
 refine Xv rfl (Vl u5 rfl) ?_
 refine Xv rfl (v_fieldAddr (off' := 1) u205 rfl sz5 (by decide) rfl rfl) ?_
 refine Xv rfl (Vl u5 rfl) ?_
 refine Xv rfl (v_fieldAddr (off' := 2) u205 rfl sz5 (by decide) rfl rfl) ?_
 refine Xv rfl (Vl u5 rfl) ?_
 refine Xv rfl (v_fieldAddr (off' := 3) u205 rfl sz5 (by decide) rfl rfl) ?_
 refine Xv rfl (Vl u5 rfl) ?_
 refine x_buildSliceL rfl rfl rfl u49 sz5 zr5 rfl rfl rfl ?_
 intro p11
 refine Xa ?_
 refine Ze (Zt (w_ret ?_))
 refine ret1 rfl rfl (fun w' hm => ⟨_, rfl, hm.base (by simp), ?_⟩)
 exact row1_rd (e := 5) (r := some (p11, byC (gl g), 4)) (n := 4) (fun c : UInt8 => Value.int .u8 (c.toNat : Nat)) rfl (rowOK_lit rfl (by decide)) rfl (fun _ _ _ _ => rfl) hm (fun p hp => by rw [List.mem_singleton.1 hp]; exact .head _) (fun p hp => by rw [List.mem_singleton.1 hp]; exact hm.newer (by simp) (.head _))
theorem c_Index {v : Value} {bs : List UInt8} {D : Nat → Prop} (c : UInt8) (w : World) (hbs : sliceRd tyB D w v bs) :
  Calls Tryz.prog 220 #[v, .int .u8 (c.toNat : Nat)] w fun e w' => e = .returned (.int .i64 (fidx (fun x => decide (c = x)) bs)) ∧ Later w w' := by
 obtain ⟨A, cp, rfl, hlc, hmx, hA⟩ := id hbs
 refine enter (vs := [.slice A bs.length cp, .int .u8 (c.toNat : Nat)]) Tryz.func220 rfl Tryz.ntmps220 rfl ?_
 refine Zs (Zr ?_)
 refine Xa ?_
 refine Ze (Zt (Zs (Zs (Zr ?_))))
 refine Xm ?_
 refine Xv rfl (v_len_slice u49 rfl) ?_
 refine Xm ?_
 refine Ze (Zt (w_block ?_))
 refine w_loop (σ := Nat) (fun k => k ≤ bs.length ∧ ∀ j (h : j < bs.length), j < k → decide (c = bs[j]) = false) (fun k => [(0, .slice A bs.length cp), (1, Value.int .u8 (c.toNat : Nat)), (7, Value.int .i64 bs.length), (8, Value.int .i64 (k : Nat))]) (fun k => []) (fun k => [(w, fun _ => True)]) (fun k => bs.length - k) (0) (⟨Nat.zero_le _, by intros; omega⟩) (l_start Zu (fun _ h => h)) ?_
 rintro k ⟨hk, hno⟩
 refine w_state ([(0, .slice A bs.length cp), (1, Value.int .u8 (c.toNat : Nat)), (7, Value.int .i64 bs.length), (8, Value.int .i64 (k : Nat))]) ([]) ([(w, fun _ => True)]) ?_
 refine Zs (Zr ?_)
 refine Xb rfl (v_lss rfl rfl) fun b9 hb9 => ?_
 refine Ze (Zt (Zs ?_))
 refine w_cond rfl (fun hc9 => ?_) (fun hc9 => ?_)
 ·simp only [hb9, Qz, ne_eq] at hc9
  have hkl : k < bs.length := by omega
  obtain ⟨b0, o0, hA0, hD0, hc0⟩ := b_at hbs hkl
  refine w_skip (Zt (Zs (w_block (Zs (Zr ?_)))))
  refine Xm ?_
  refine Xa ?_
  refine Ze (Zt (Zs (Zr ?_)))
  refine Xm ?_
  refine Xm ?_
  refine Xm ?_
  refine Xv rfl (v_indexAddr u49 sz5 (congrArg (fun A => some (Value.slice A bs.length cp)) hA0) rfl Zo rfl) ?_
  refine Xv rfl (v_load u5 rfl rfl (at_ro (.head _) trivial (by rw [Nat.mul_one]; exact hc0))) ?_
  refine Xb rfl (v_eql rfl rfl) fun b16 hb16 => ?_
  refine Ze (Zt ?_)
  refine w_cond rfl (fun hc16 => ?_) (fun hc16 => ?_)
  ·simp only [hb16, Qz, ne_eq] at hc16
   refine Zs (Zr ?_)
   refine Xm ?_
   refine Xa ?_
   refine Ze (Zt (w_ret (b_ret (t_ret (t_ret (b_ret (t_ret ?_)))))))
   refine ret1 rfl rfl (fun w' hm => ⟨?_, hm.base (by simp)⟩)
   rw [fidx_at hkl (decide_eq_true (u8_lit.1 hc16)) hno]
  simp only [hb16, Qz, ne_eq] at hc16
  refine w_skip (b_norm (Zt (Zr ?_)))
  refine Xv rfl (v_addi rfl rfl rfl Zo) ?_
  refine Xm ?_
  refine Ze ?_
  exact l_norm (k + 1) (⟨by omega, fun j h hjk => by rcases Nat.lt_succ_iff_lt_or_eq.1 hjk with h2 | rfl; (· exact hno j h h2); exact decide_eq_false (fun e => hc16 (u8_lit.2 e))⟩) (by omega) Zu (fun _ h => h)
 simp only [hb9, Qz, ne_eq] at hc9
 refine w_exit ?_
 refine t_exit ?_
 refine t_exit ?_
 refine b_hit ?_
 refine Zt (Zs (Zr ?_))
 refine Xa ?_
 refine Ze (Zt (w_ret ?_))
 refine ret1 rfl rfl (fun w' hm => ⟨?_, hm.base (by simp)⟩)
 rw [fidx_none (fun j h => hno j h (by omega))]
theorem c_Contains {v : Value} {bs : List UInt8} {D : Nat → Prop} (c : UInt8) (w : World) (hbs : sliceRd tyB D w v bs) :
  Calls Tryz.prog 202 #[v, .int .u8 (c.toNat : Nat)] w fun e w' => e = .returned (.bool (hasU bs c)) ∧ Later w w' := by
 refine enter (vs := [v, .int .u8 (c.toNat : Nat)]) Tryz.func202 rfl Tryz.ntmps202 rfl ?_
 refine Zs (Zr ?_)
 refine Xa ?_
 refine Ze (Zt (Zs (Zr ?_)))
 refine Xm ?_
 refine Xm ?_
 refine x_callv rfl rfl rfl Tryz.func220 Zk rfl (fun w1 hw1 => c_Index _ w1 (hbs.keep (Kept.later (hw1.base (by simp))))) ?_
 refine Xb rfl (v_geq rfl rfl) fun b8 hb8 => ?_
 refine Xa ?_
 refine Ze (Zt (w_ret ?_))
 refine ret1 rfl rfl (fun w' hm => ⟨?_, hm.base (by simp)⟩)
 rw [hb8, Bool.eq_iff_iff.2 (decide_eq_true_iff.trans (fidx_nn _ bs))]; rfl
theorem c_right (g : Sg) (w : World) :
  Calls Tryz.prog 176 #[.agg g.cells.toArray] w fun e w' => e = .returned (.bool (decide (rightS g))) ∧ Later w w' := by
 refine enter (vs := [.agg g.cells.toArray]) Tryz.func176 rfl Tryz.ntmps176 rfl ?_
 refine Zs (Zr ?_)
 refine x_box rfl rfl rfl rfl ?_
 intro p1
 refine Xa ?_
 refine Ze (Zt (Zs (Zr ?_)))
 refine Xv rfl (v_load_blk (e := 205) (fz := (0, 0)) (cs := g.cells.toArray) u205 rfl rfl (.head _) sz205) ?_
 refine x_call rfl rfl rfl Tryz.func201 Zk rfl (fun w1 hw1 => c_list g w1) fun v7 wa7 wb7 hm7 hl7 hr7 => ?_
 obtain ⟨A7, c7, hv7, hl7, _⟩ := id hr7
 subst hv7
 refine Xa ?_
 refine Ze (Zt (Zs (Zs (Zr ?_))))
 refine Xm ?_
 refine Xv rfl (v_len_slice u49 rfl) ?_
 refine Xm ?_
 refine Ze (Zt (w_block ?_))
 refine w_loop (σ := Nat) (fun k => k ≤ 4 ∧ rightL (gl g) k) (fun k => [(3, .slice A7 4 c7), (8, .slice A7 4 c7), (9, Value.int .i64 4), (10, Value.int .i64 (k : Nat))]) (fun k => [(p1, Obj.cells g.cells.toArray 205)]) (fun k => [(wb7, notOwn [(p1, Obj.cells g.cells.toArray 205)]), (w, fun _ => True)]) (fun k => 4 - k) (0) (⟨Nat.zero_le _, trivial⟩) (l_start Zu (fun _ h => h)) ?_
 rintro k ⟨hk, hr⟩
 refine w_state ([(3, .slice A7 4 c7), (8, .slice A7 4 c7), (9, Value.int .i64 4), (10, Value.int .i64 (k : Nat))]) ([(p1, Obj.cells g.cells.toArray 205)]) ([(wb7, notOwn [(p1, Obj.cells g.cells.toArray 205)]), (w, fun _ => True)]) ?_
 refine Zs (Zr ?_)
 refine Xb rfl (v_lss rfl rfl) fun b11 hb11 => ?_
 refine Ze (Zt (Zs ?_))
 refine w_cond rfl (fun hc11 => ?_) (fun hc11 => ?_)
 ·simp only [hb11, Qz, ne_eq] at hc11
  have hk4 : k < 4 := by omega
  have hkl : k < (gl g).length := hk4
  obtain ⟨b0, o0, hA0, hD0, hc0⟩ := b_at (c := c7) (l := 4) hr7 hkl
  have hgd : (gl g)[k] = ((gl g).getD k 0) := by rw [List.getD_eq_getElem?_getD, List.getElem?_eq_getElem hkl]; rfl
  rw [hgd] at hc0
  generalize hck : ((gl g).getD k 0) = ck at hc0
  have hclr := clr_val ck
  refine w_skip (Zt (Zs (w_block (Zs (Zr ?_)))))
  refine Xm ?_
  refine Xv rfl (v_indexAddr u49 sz5 (congrArg (fun A => some (Value.slice A 4 c7)) hA0) rfl Zo rfl) ?_
  refine Xv rfl (v_load u5 rfl rfl (at_ro (.head _) (fun p hp => by rw [List.mem_singleton.1 hp]; have := hm7.lt (p := (p1, Obj.cells g.cells.toArray 205)) (.head _); dsimp only at this ⊢; omega) (by rw [Nat.mul_one]; exact hc0))) ?_
  refine Xa ?_
  refine Xa ?_
  refine Ze (Zt (Zs (Zr ?_)))
  refine Xm ?_
  refine Xb rfl (v_leq rfl rfl) fun b16 hb16 => ?_
  refine Xm ?_
  refine Xg ?_
  refine Xj rfl rfl rfl (fun hg0 => by subst hg0; (try simp only [Qy]); exact v_geq rfl rfl) fun b19 hb19 => ?_
  refine Xg ?_
  refine x_if [(b16, false)] rfl rfl rfl rfl rfl (fun hg => by obtain ⟨hg0, hg1, _⟩ := hg; subst hg0; subst hg1; (try simp only [Qy]); exact v_move rfl) ?_
  refine x_ifb [(b16, false)] rfl rfl rfl rfl rfl (fun hg => by obtain ⟨hg0, hg1, _⟩ := hg; subst hg0; subst hg1; (try simp only [Qy]); exact v_leq rfl rfl) fun b22 hb22 => ?_
  refine Xj rfl rfl rfl (fun hg0 => by subst hg0; (try simp only [Qy]); exact v_and rfl rfl) fun b23 hb23 => ?_
  refine Xb rfl (v_or rfl rfl) fun b24 hb24 => ?_
  refine Xm ?_
  refine Xg ?_
  refine x_if [] rfl rfl rfl rfl rfl (v := Value.int .u8 ((clr ck).toNat : Nat)) (fun hg => by obtain ⟨hg0, _⟩ := hg; subst hg0; (try simp only [Qy]); rw [← hclr]; exact v_andNotK rfl rfl) ?_
  refine x_call_ifb [] rfl rfl rfl rfl rfl Tryz.func177 Zk (fun hg => by obtain ⟨hg0, _⟩ := hg; subst hg0; (try simp only [Qy]); refine ⟨_, rfl, ?_⟩; exact fun w1 hw1 => c_capital _ w1) fun b28 hb28 => ?_
  refine Xb rfl (v_or rfl rfl) fun b29 hb29 => ?_
  refine Xm ?_
  refine Xg ?_
  refine Xg ?_
  refine Xi rfl rfl rfl (fun hg0 => by subst hg0; (try simp only [Qy]); exact v_scut_to u49 sz5 rfl rfl (by have : (gl g).length = 4 := rfl; omega)) ?_
  refine Xg ?_
  refine x_call_ifb [] rfl rfl rfl rfl rfl Tryz.func202 Zk (fun hg => by obtain ⟨hg0, _⟩ := hg; subst hg0; (try simp only [Qy]); refine ⟨_, rfl, ?_⟩; exact fun w1 hw1 => c_Contains (bs := (gl g).take k) _ w1 ((keep_new hr7 hw1 (.head _) hm7).take k (by have : (gl g).length = 4 := rfl; omega))) fun b35 hb35 => ?_
  refine Xb rfl (v_or rfl rfl) fun b36 hb36 => ?_
  refine Ze (Zt ?_)
  refine w_cond rfl (fun hc36 => ?_) (fun hc36 => ?_)
  ·have hbad : badAt (gl g) k ↔ b36 = true := by
    rw [hb36, hb35, hb29, hb28, hb24, hb23, hb22, hb19, hb16]
    unfold badAt alnum
    rw [hck]
    simp only [Bool.or_eq_true, Bool.and_eq_true, decide_eq_true_eq, clr_cap]
    by_cases hx : hasU ((gl g).take k) ck = true
    ·simp only [hx, or_true]
    simp only [hx, Bool.false_eq_true, or_false]; omega
   have hB := hbad.2 hc36
   refine Zs (Zr ?_)
   refine Xa ?_
   refine Ze (Zt (w_ret (b_ret (t_ret (t_ret (b_ret (t_ret ?_)))))))
   refine ret1 rfl rfl (fun w' hm => ⟨?_, hm.base (by simp)⟩)
   rw [decide_eq_false (fun hs => rightL_le hk4 ((rightS_iff g).1 hs) hB)]
  have hbad : badAt (gl g) k ↔ b36 = true := by
   rw [hb36, hb35, hb29, hb28, hb24, hb23, hb22, hb19, hb16]
   unfold badAt alnum
   rw [hck]
   simp only [Bool.or_eq_true, Bool.and_eq_true, decide_eq_true_eq, clr_cap]
   by_cases hx : hasU ((gl g).take k) ck = true
   ·simp only [hx, or_true]
   simp only [hx, Bool.false_eq_true, or_false]; omega
  have hB : ¬badAt (gl g) k := fun h => by rw [hbad.1 h] at hc36; cases hc36
  refine w_skip (b_norm (Zt (Zr ?_)))
  refine Xv rfl (v_addi rfl rfl rfl Zo) ?_
  refine Xm ?_
  refine Ze ?_
  exact l_norm (k + 1) (⟨by omega, hr, hB⟩) (by omega) Zu (fun _ h => h)
 simp only [hb11, Qz, ne_eq] at hc11
 obtain rfl : k = 4 := by omega
 refine w_exit ?_
 refine t_exit ?_
 refine t_exit ?_
 refine b_hit ?_
 refine Zt (Zs (Zr ?_))
 refine Xa ?_
 refine Ze (Zt (w_ret ?_))
 refine ret1 rfl rfl (fun w' hm => ⟨?_, hm.base (by simp)⟩)
 rw [decide_eq_true ((rightS_iff g).2 hr)]
open Go.RowKit Go.PK
theorem c_skip {l1 l2 : List (Nat × Obj)} {ro : List Snap} {p : Nat} (g : Sg) (s : ByteArray) (a : Nat) (w : World) (hm : Mem w (l1 ++ (p, Obj.cells (msgC g s (a)).toArray 207) :: l2) ro) (hs : s.size ≤ 200000000) (ha : a ≤ s.size) :
  Calls Tryz.prog 155 #[.pointer (some ⟨p, 0, none⟩)] w fun e w' => e = .returned (.tuple #[]) ∧ Mem w' (l1 ++ (p, Obj.cells (msgC g s (skipP s a)).toArray 207) :: l2) ro := by
 refine enter_in hm (vs := [.pointer (some ⟨p, 0, none⟩)]) Tryz.func155 rfl Tryz.ntmps155 rfl ?_
 refine w_block ?_
 refine w_loop (σ := Nat) (fun x => x ≤ s.size ∧ skipP s x = skipP s a) (fun x => [(0, .pointer (some ⟨p, 0, none⟩))]) (fun x => l1 ++ (p, Obj.cells (msgC g s (x)).toArray 207) :: l2) (fun x => ro) (fun x => s.size - x) (a) (⟨ha, rfl⟩) (l_start Zu (fun _ h => h)) ?_
 rintro x ⟨hx, hk⟩
 refine w_state ([(0, .pointer (some ⟨p, 0, none⟩))]) (l1 ++ (p, Obj.cells (msgC g s (x)).toArray 207) :: l2) (ro) ?_
 refine Zs (Zs ?_)
 refine rg_draw 46 [(true, 0), (true, 1), (true, 2), (true, 3), (true, 4), (true, 5), (true, 6), (true, 7), (true, 8), (true, 9), (true, 10), (true, 11), (true, 12), (true, 13), (true, 14), (true, 15), (true, 16), (true, 17), (true, 18), (true, 19), (true, 20), (true, 21), (true, 22), (true, 23), (true, 24), (true, 25), (true, 26), (true, 27), (true, 28), (true, 29), (true, 30), (true, 31), (true, 32), (true, 33), (true, 34), (true, 35), (true, 36), (true, 37), (true, 38), (true, 39), (true, 40), (true, 41), (true, 42), (true, 43), (true, 44), (true, 45)] Zk Zk ?_
 refine Xm ?_
 refine Xv rfl (v_nilCheck rfl) ?_
 refine Xv rfl (v_fieldAddr (off' := 5) u207 rfl sz3 (by decide) rfl rfl) ?_
 refine Xv rfl (v_load u3 rfl rfl (at_ownL (vs := msgC g s (x)) (List.mem_append_right _ (.head _)) rfl)) ?_
 refine Xm ?_
 refine Xv rfl (v_nilCheck rfl) ?_
 refine Xv rfl (v_fieldAddr (off' := 4) u207 rfl sz9 (by decide) rfl rfl) ?_
 refine Xv rfl (v_load u9 rfl rfl (at_ownL (vs := msgC g s (x)) (List.mem_append_right _ (.head _)) rfl)) ?_
 refine Xv rfl (v_len_str u9 rfl) ?_
 refine Xb rfl (v_lss rfl rfl) fun b11 hb11 => ?_
 refine Xm ?_
 refine Xg ?_
 refine Xi rfl rfl rfl (fun hg0 => by subst hg0; (try simp only [Qy]); exact v_nilCheck rfl) ?_
 refine Xi rfl rfl rfl (fun hg0 => by subst hg0; (try simp only [Qy]); exact v_fieldAddr (off' := 4) u207 rfl sz9 (by decide) rfl rfl) ?_
 refine Xi rfl rfl rfl (fun hg0 => by subst hg0; (try simp only [Qy]); exact v_load u9 rfl rfl (at_ownL (vs := msgC g s (x)) (List.mem_append_right _ (.head _)) rfl)) ?_
 refine Xg ?_
 refine Xi rfl rfl rfl (fun hg0 => by subst hg0; (try simp only [Qy]); exact v_nilCheck rfl) ?_
 refine Xi rfl rfl rfl (fun hg0 => by subst hg0; (try simp only [Qy]); exact v_fieldAddr (off' := 5) u207 rfl sz3 (by decide) rfl rfl) ?_
 refine Xi rfl rfl rfl (fun hg0 => by subst hg0; (try simp only [Qy]); exact v_load u3 rfl rfl (at_ownL (vs := msgC g s (x)) (List.mem_append_right _ (.head _)) rfl)) ?_
 refine Xi rfl rfl rfl (fun hg0 => by subst hg0; (try simp only [Qy]); exact v_index u9 rfl rfl (by have := of_decide_eq_true hb11.symm; omega)) ?_
 refine Xj rfl rfl rfl (fun hg0 => by subst hg0; (try simp only [Qy]); exact v_eql rfl rfl) fun b22 hb22 => ?_
 refine Xg ?_
 refine x_if [(b11, true)] rfl rfl rfl rfl rfl (fun hg => by obtain ⟨hg0, hg1, _⟩ := hg; subst hg0; subst hg1; (try simp only [Qy]); exact v_move rfl) ?_
 refine x_if [(b11, true)] rfl rfl rfl rfl rfl (fun hg => by obtain ⟨hg0, hg1, _⟩ := hg; subst hg0; subst hg1; (try simp only [Qy]); exact v_nilCheck rfl) ?_
 refine x_if [(b11, true)] rfl rfl rfl rfl rfl (fun hg => by obtain ⟨hg0, hg1, _⟩ := hg; subst hg0; subst hg1; (try simp only [Qy]); exact v_fieldAddr (off' := 4) u207 rfl sz9 (by decide) rfl rfl) ?_
 refine x_if [(b11, true)] rfl rfl rfl rfl rfl (fun hg => by obtain ⟨hg0, hg1, _⟩ := hg; subst hg0; subst hg1; (try simp only [Qy]); exact v_load u9 rfl rfl (at_ownL (vs := msgC g s (x)) (List.mem_append_right _ (.head _)) rfl)) ?_
 refine x_if [(b11, true)] rfl rfl rfl rfl rfl (fun hg => by obtain ⟨hg0, hg1, _⟩ := hg; subst hg0; subst hg1; (try simp only [Qy]); exact v_move rfl) ?_
 refine x_if [(b11, true)] rfl rfl rfl rfl rfl (fun hg => by obtain ⟨hg0, hg1, _⟩ := hg; subst hg0; subst hg1; (try simp only [Qy]); exact v_nilCheck rfl) ?_
 refine x_if [(b11, true)] rfl rfl rfl rfl rfl (fun hg => by obtain ⟨hg0, hg1, _⟩ := hg; subst hg0; subst hg1; (try simp only [Qy]); exact v_fieldAddr (off' := 5) u207 rfl sz3 (by decide) rfl rfl) ?_
 refine x_if [(b11, true)] rfl rfl rfl rfl rfl (fun hg => by obtain ⟨hg0, hg1, _⟩ := hg; subst hg0; subst hg1; (try simp only [Qy]); exact v_load u3 rfl rfl (at_ownL (vs := msgC g s (x)) (List.mem_append_right _ (.head _)) rfl)) ?_
 refine x_if [(b11, true)] rfl rfl rfl rfl rfl (fun hg => by obtain ⟨hg0, hg1, _⟩ := hg; subst hg0; subst hg1; (try simp only [Qy]); exact v_index u9 rfl rfl (by have := of_decide_eq_true hb11.symm; omega)) ?_
 refine x_ifb [(b11, true)] rfl rfl rfl rfl rfl (fun hg => by obtain ⟨hg0, hg1, _⟩ := hg; subst hg0; subst hg1; (try simp only [Qy]); exact v_eql rfl rfl) fun b33 hb33 => ?_
 refine Xj rfl rfl rfl (fun hg0 => by subst hg0; (try simp only [Qy]); exact v_or rfl rfl) fun b34 hb34 => ?_
 refine Xg ?_
 refine x_if [(b11, true)] rfl rfl rfl rfl rfl (fun hg => by obtain ⟨hg0, hg1, _⟩ := hg; subst hg0; subst hg1; (try simp only [Qy]); exact v_move rfl) ?_
 refine x_if [(b11, true)] rfl rfl rfl rfl rfl (fun hg => by obtain ⟨hg0, hg1, _⟩ := hg; subst hg0; subst hg1; (try simp only [Qy]); exact v_nilCheck rfl) ?_
 refine x_if [(b11, true)] rfl rfl rfl rfl rfl (fun hg => by obtain ⟨hg0, hg1, _⟩ := hg; subst hg0; subst hg1; (try simp only [Qy]); exact v_fieldAddr (off' := 4) u207 rfl sz9 (by decide) rfl rfl) ?_
 refine x_if [(b11, true)] rfl rfl rfl rfl rfl (fun hg => by obtain ⟨hg0, hg1, _⟩ := hg; subst hg0; subst hg1; (try simp only [Qy]); exact v_load u9 rfl rfl (at_ownL (vs := msgC g s (x)) (List.mem_append_right _ (.head _)) rfl)) ?_
 refine x_if [(b11, true)] rfl rfl rfl rfl rfl (fun hg => by obtain ⟨hg0, hg1, _⟩ := hg; subst hg0; subst hg1; (try simp only [Qy]); exact v_move rfl) ?_
 refine x_if [(b11, true)] rfl rfl rfl rfl rfl (fun hg => by obtain ⟨hg0, hg1, _⟩ := hg; subst hg0; subst hg1; (try simp only [Qy]); exact v_nilCheck rfl) ?_
 refine x_if [(b11, true)] rfl rfl rfl rfl rfl (fun hg => by obtain ⟨hg0, hg1, _⟩ := hg; subst hg0; subst hg1; (try simp only [Qy]); exact v_fieldAddr (off' := 5) u207 rfl sz3 (by decide) rfl rfl) ?_
 refine x_if [(b11, true)] rfl rfl rfl rfl rfl (fun hg => by obtain ⟨hg0, hg1, _⟩ := hg; subst hg0; subst hg1; (try simp only [Qy]); exact v_load u3 rfl rfl (at_ownL (vs := msgC g s (x)) (List.mem_append_right _ (.head _)) rfl)) ?_
 refine x_if [(b11, true)] rfl rfl rfl rfl rfl (fun hg => by obtain ⟨hg0, hg1, _⟩ := hg; subst hg0; subst hg1; (try simp only [Qy]); exact v_index u9 rfl rfl (by have := of_decide_eq_true hb11.symm; omega)) ?_
 refine x_ifb [(b11, true)] rfl rfl rfl rfl rfl (fun hg => by obtain ⟨hg0, hg1, _⟩ := hg; subst hg0; subst hg1; (try simp only [Qy]); exact v_eql rfl rfl) fun b45 hb45 => ?_
 refine Xj rfl rfl rfl (fun hg0 => by subst hg0; (try simp only [Qy]); exact v_or rfl rfl) fun b46 hb46 => ?_
 refine Xb rfl (v_and rfl rfl) fun b47 hb47 => ?_
 refine Ze (Zt ?_)
 refine w_cond rfl (fun hc47 => ?_) (fun hc47 => ?_)
 ·have hgo : x < s.size ∧ blankB (byteAt s x) = true := by
   rw [hb47, hb46, hb45, hb34, hb33, hb22, hb11] at hc47
   simp only [Bool.and_eq_true, Bool.or_eq_true, decide_eq_true_eq] at hc47
   exact ⟨by omega, (blank_iff _).2 hc47.2⟩
  refine w_skip (Zt (w_block (Zr ?_)))
  refine Xm ?_
  refine Xv rfl (v_nilCheck rfl) ?_
  refine Xv rfl (v_fieldAddr (off' := 5) u207 rfl sz3 (by decide) rfl rfl) ?_
  refine Xv rfl (v_load u3 rfl rfl (at_ownL (vs := msgC g s (x)) (List.mem_append_right _ (.head _)) rfl)) ?_
  refine Xv rfl (v_addi rfl rfl rfl (by have := hgo.1; omega)) ?_
  refine Xv rfl (v_nilCheck rfl) ?_
  refine Xv rfl (v_fieldAddr (off' := 5) u207 rfl sz3 (by decide) rfl rfl) ?_
  refine x_store l1 rfl rfl rfl rfl sz3 rfl (by show 6 ≤ 6; decide) ?_
  refine Ze (b_norm ?_)
  exact l_norm (x + 1) ⟨by omega, by rw [← skip_go hgo.1 hgo.2]; exact hk⟩ (by omega) Zu (fun _ h => h)
 have hns : ¬(x < s.size ∧ blankB (byteAt s x) = true) := fun ⟨h1, h2⟩ => by
  rw [blank_iff] at h2
  rw [hb47, hb46, hb45, hb34, hb33, hb22, hb11, decide_eq_true (show (x : Int) < s.size by omega)] at hc47
  simp only [Bool.true_and, Bool.or_eq_false_iff, decide_eq_false_iff_not] at hc47
  rcases h2 with (h2 | h2) | h2
  ·exact hc47.1.1 h2
  ·exact hc47.1.2 h2
  exact hc47.2 h2
 have e : x = skipP s a := by rw [← hk, skip_stop hns]
 subst e
 refine w_exit ?_
 refine t_exit ?_
 refine t_exit ?_
 refine b_hit ?_
 exact ret0 rfl (fun w' hm' => ⟨rfl, hm'⟩)
theorem c_next {l1 l2 : List (Nat × Obj)} {ro : List Snap} {p : Nat} (g : Sg) (s : ByteArray) (a : Nat) (w : World) (hm : Mem w (l1 ++ (p, Obj.cells (msgC g s (a)).toArray 207) :: l2) ro) (hs : s.size ≤ 200000000) (ha : a < s.size) :
  Calls Tryz.prog 178 #[.pointer (some ⟨p, 0, none⟩)] w fun e w' => e = .returned (.int .u8 ((byteAt s a).toNat : Nat)) ∧ Mem w' (l1 ++ (p, Obj.cells (msgC g s (a + 1)).toArray 207) :: l2) ro := by
 refine enter_in hm (vs := [.pointer (some ⟨p, 0, none⟩)]) Tryz.func178 rfl Tryz.ntmps178 rfl ?_
 refine Zs (Zr ?_)
 refine Xa ?_
 refine Ze (Zt (Zs (Zr ?_)))
 refine Xm ?_
 refine Xv rfl (v_nilCheck rfl) ?_
 refine Xv rfl (v_fieldAddr (off' := 5) u207 rfl sz3 (by decide) rfl rfl) ?_
 refine Xv rfl (v_load u3 rfl rfl (at_ownL (vs := msgC g s (a)) (List.mem_append_right _ (.head _)) rfl)) ?_
 refine Xv rfl (v_addi rfl rfl rfl (by omega)) ?_
 refine Xv rfl (v_nilCheck rfl) ?_
 refine Xv rfl (v_fieldAddr (off' := 5) u207 rfl sz3 (by decide) rfl rfl) ?_
 refine x_store l1 rfl rfl rfl rfl sz3 rfl (by show 6 ≤ 6; decide) ?_
 refine Ze (Zt (Zs ?_))
 refine rg_draw 11 [(true, 0), (true, 1), (true, 2), (true, 3), (true, 4), (true, 5), (true, 6), (true, 7), (true, 8), (true, 9), (true, 10)] Zk Zk ?_
 refine Xm ?_
 refine Xv rfl (v_nilCheck rfl) ?_
 refine Xv rfl (v_fieldAddr (off' := 4) u207 rfl sz9 (by decide) rfl rfl) ?_
 refine Xv rfl (v_load u9 rfl rfl (at_ownL (vs := msgC g s (a + 1)) (List.mem_append_right _ (.head _)) rfl)) ?_
 refine Xm ?_
 refine Xv rfl (v_nilCheck rfl) ?_
 refine Xv rfl (v_fieldAddr (off' := 5) u207 rfl sz3 (by decide) rfl rfl) ?_
 refine Xv rfl (v_load u3 rfl rfl (at_ownL (vs := msgC g s (a + 1)) (List.mem_append_right _ (.head _)) rfl)) ?_
 refine Xv rfl (v_subi (c := (a : Int)) rfl rfl (by omega) (by omega)) ?_
 refine Xv rfl (v_index u9 rfl rfl (ha)) ?_
 refine Xa ?_
 refine Ze (Zt (w_ret ?_))
 refine ret1 rfl rfl (fun w' hm' => ⟨?_, hm'⟩)
 rfl
theorem c_tag {l1 l2 : List (Nat × Obj)} {ro : List Snap} {p : Nat} (g : Sg) (s : ByteArray) (a : Nat) (w : World) (hm : Mem w (l1 ++ (p, Obj.cells (msgC g s (a)).toArray 207) :: l2) ro) (hs : s.size ≤ 200000000) (ha : a ≤ s.size) :
  Calls Tryz.prog 156 #[.pointer (some ⟨p, 0, none⟩)] w fun e w' => e = .returned (.tuple #[.string (tagR s g a).1.1, .int .i64 (tagR s g a).1.2.1, .int .i64 (tagR s g a).1.2.2]) ∧ Mem w' (l1 ++ (p, Obj.cells (msgC g s ((tagR s g a).2)).toArray 207) :: l2) ro := by
 have hts := tagAt_size (s := s) (a := a) ha
 refine enter_in hm (vs := [.pointer (some ⟨p, 0, none⟩)]) Tryz.func156 rfl Tryz.ntmps156 rfl ?_
 refine Zs (Zr ?_)
 refine Xa ?_
 refine Xa ?_
 refine Xa ?_
 refine Ze (Zt (Zs ?_))
 refine rg_draw 21 [(true, 0), (true, 1), (true, 2), (true, 3), (true, 4), (true, 5), (true, 6), (true, 7), (true, 8), (true, 9), (true, 10), (true, 11), (true, 12), (true, 13), (true, 14), (true, 15), (true, 16), (true, 17), (true, 18), (true, 19), (true, 20)] Zk Zk ?_
 refine Xm ?_
 refine Xv rfl (v_nilCheck rfl) ?_
 refine Xv rfl (v_fieldAddr (off' := 4) u207 rfl sz9 (by decide) rfl rfl) ?_
 refine Xv rfl (v_load u9 rfl rfl (at_ownL (vs := msgC g s (a)) (List.mem_append_right _ (.head _)) rfl)) ?_
 refine Xm ?_
 refine Xv rfl (v_nilCheck rfl) ?_
 refine Xv rfl (v_fieldAddr (off' := 5) u207 rfl sz3 (by decide) rfl rfl) ?_
 refine Xv rfl (v_load u3 rfl rfl (at_ownL (vs := msgC g s (a)) (List.mem_append_right _ (.head _)) rfl)) ?_
 refine Xm ?_
 refine Xv rfl (v_nilCheck rfl) ?_
 refine Xv rfl (v_fieldAddr (off' := 5) u207 rfl sz3 (by decide) rfl rfl) ?_
 refine Xv rfl (v_load u3 rfl rfl (at_ownL (vs := msgC g s (a)) (List.mem_append_right _ (.head _)) rfl)) ?_
 refine Xv rfl (v_addi rfl rfl rfl (by omega)) ?_
 refine Xm ?_
 refine Xv rfl (v_nilCheck rfl) ?_
 refine Xv rfl (v_fieldAddr (off' := 4) u207 rfl sz9 (by decide) rfl rfl) ?_
 refine Xv rfl (v_load u9 rfl rfl (at_ownL (vs := msgC g s (a)) (List.mem_append_right _ (.head _)) rfl)) ?_
 refine Xv rfl (v_len_str u9 rfl) ?_
 refine Xv (v := Value.int .i64 ((min (a + 3) s.size : Nat) : Int)) rfl (by rw [show ((min (a + 3) s.size : Nat) : Int) = min ((a : Int) + 3) (s.size : Int) by omega]; exact v_min rfl rfl) ?_
 refine Xv (v := Value.string (tagAt s a)) rfl (v_cut u9 rfl rfl rfl (by omega) (by omega)) ?_
 refine Xa ?_
 refine Ze (Zt (Zs (Zs (Zr ?_))))
 refine Xm ?_
 refine Xv rfl (v_len_str u9 rfl) ?_
 refine Xm ?_
 refine Ze (Zt (w_block ?_))
 refine w_loop (σ := Nat) (fun k => k ≤ (tagAt s a).size ∧ ∀ j, j < k → capB (byteAt (tagAt s a) j) = true) (fun k => [(0, .pointer (some ⟨p, 0, none⟩)), (5, Value.string (tagAt s a)), (28, Value.int .i64 ((tagAt s a).size : Nat)), (29, Value.int .i64 (k : Nat))]) (fun k => l1 ++ (p, Obj.cells (msgC g s (a)).toArray 207) :: l2) (fun k => ro) (fun k => (tagAt s a).size - k) (0) (⟨Nat.zero_le _, by intros; omega⟩) (l_start Zu (fun _ h => h)) ?_
 rintro k ⟨hk, hc⟩
 refine w_state ([(0, .pointer (some ⟨p, 0, none⟩)), (5, Value.string (tagAt s a)), (28, Value.int .i64 ((tagAt s a).size : Nat)), (29, Value.int .i64 (k : Nat))]) (l1 ++ (p, Obj.cells (msgC g s (a)).toArray 207) :: l2) (ro) ?_
 refine Zs (Zr ?_)
 refine Xb rfl (v_lss rfl rfl) fun b30 hb30 => ?_
 refine Ze (Zt (Zs ?_))
 refine w_cond rfl (fun hc30 => ?_) (fun hc30 => ?_)
 ·simp only [hb30, Qz, ne_eq] at hc30
  have hkl : k < (tagAt s a).size := by omega
  refine w_skip (Zt (Zs (w_block (Zs (Zr ?_)))))
  refine Xm ?_
  refine Xa ?_
  refine Ze (Zt (Zs (Zr ?_)))
  refine Xm ?_
  refine Xm ?_
  refine Xv rfl (v_index u9 rfl rfl (hkl)) ?_
  refine x_callb rfl rfl rfl Tryz.func177 Zk rfl (fun w1 hw1 => c_capital _ w1) fun b35 hb35 => ?_
  refine Xb rfl (v_not rfl) fun b36 hb36 => ?_
  refine Ze (Zt ?_)
  refine w_cond rfl (fun hc36 => ?_) (fun hc36 => ?_)
  ·have hnc : ¬allCap (tagAt s a) := fun h => by rw [hb36, hb35, h k hkl] at hc36; cases hc36
   have eT : tagR s g a = ((⟨#[]⟩, ((a : Nat) : Int), 40), a) := by unfold tagR; rw [if_pos hnc]
   rw [eT]
   refine Zs ?_
   refine rg_draw 7 [(true, 0), (true, 1), (true, 2), (true, 3), (true, 4), (true, 5), (true, 6)] Zk Zk ?_
   refine Xm ?_
   refine Xv rfl (v_nilCheck rfl) ?_
   refine Xv rfl (v_fieldAddr (off' := 5) u207 rfl sz3 (by decide) rfl rfl) ?_
   refine Xv rfl (v_load u3 rfl rfl (at_ownL (vs := msgC g s (a)) (List.mem_append_right _ (.head _)) rfl)) ?_
   refine Xa ?_
   refine Xa ?_
   refine Xa ?_
   refine Ze (Zt (w_ret (b_ret (t_ret (t_ret (b_ret (t_ret ?_)))))))
   refine ret3 rfl rfl rfl rfl (fun w' hm' => ⟨?_, hm'⟩)
   rfl
  have hcp : capB (byteAt (tagAt s a) k) = true := by rw [hb36, hb35] at hc36; simpa using hc36
  refine w_skip (b_norm (Zt (Zr ?_)))
  refine Xv rfl (v_addi rfl rfl rfl Zo) ?_
  refine Xm ?_
  refine Ze ?_
  exact l_norm (k + 1) ⟨hkl, fun j hj => by rcases Nat.lt_succ_iff_lt_or_eq.1 hj with h | rfl; (· exact hc j h); exact hcp⟩ (by omega) Zu (fun _ h => h)
 simp only [hb30, Qz, ne_eq] at hc30
 obtain rfl : k = (tagAt s a).size := by omega
 have hall : allCap (tagAt s a) := hc
 refine w_exit ?_
 refine t_exit ?_
 refine t_exit ?_
 refine b_hit ?_
 refine Zt (Zs (Zr ?_))
 refine Xm ?_
 refine Xv rfl (v_nilCheck rfl) ?_
 refine Xv rfl (v_fieldAddr (off' := 5) u207 rfl sz3 (by decide) rfl rfl) ?_
 refine Xv rfl (v_load u3 rfl rfl (at_ownL (vs := msgC g s (a)) (List.mem_append_right _ (.head _)) rfl)) ?_
 refine Xm ?_
 refine Xv rfl (v_len_str u9 rfl) ?_
 refine Xv rfl (v_addi rfl rfl rfl (by omega)) ?_
 refine Xv rfl (v_nilCheck rfl) ?_
 refine Xv rfl (v_fieldAddr (off' := 5) u207 rfl sz3 (by decide) rfl rfl) ?_
 refine x_store l1 rfl rfl rfl rfl sz3 rfl (by show 6 ≤ 6; decide) ?_
 refine Ze (Zt (Zs (w_block (Zs ?_))))
 refine rg_draw 16 [(true, 0), (true, 1), (true, 2), (true, 3), (true, 4), (true, 5), (true, 6), (true, 7), (true, 8), (true, 9), (true, 10), (true, 11), (true, 12), (true, 13), (true, 14), (true, 15)] Zk Zk ?_
 refine Xm ?_
 refine Xv rfl (v_len_str u9 rfl) ?_
 refine Xb rfl (v_lss rfl rfl) fun b54 hb54 => ?_
 refine Xm ?_
 refine Xg ?_
 refine Xi rfl rfl rfl (fun hg0 => by subst hg0; (try simp only [Qy]); exact v_nilCheck rfl) ?_
 refine Xi rfl rfl rfl (fun hg0 => by subst hg0; (try simp only [Qy]); exact v_fieldAddr (off' := 5) u207 rfl sz3 (by decide) rfl rfl) ?_
 refine Xi rfl rfl rfl (fun hg0 => by subst hg0; (try simp only [Qy]); exact v_load u3 rfl rfl (at_ownL (vs := msgC g s (a + (tagAt s a).size)) (List.mem_append_right _ (.head _)) rfl)) ?_
 refine Xg ?_
 refine Xi rfl rfl rfl (fun hg0 => by subst hg0; (try simp only [Qy]); exact v_nilCheck rfl) ?_
 refine Xi rfl rfl rfl (fun hg0 => by subst hg0; (try simp only [Qy]); exact v_fieldAddr (off' := 4) u207 rfl sz9 (by decide) rfl rfl) ?_
 refine Xi rfl rfl rfl (fun hg0 => by subst hg0; (try simp only [Qy]); exact v_load u9 rfl rfl (at_ownL (vs := msgC g s (a + (tagAt s a).size)) (List.mem_append_right _ (.head _)) rfl)) ?_
 refine Xi rfl rfl rfl (fun hg0 => by subst hg0; (try simp only [Qy]); exact v_len_str u9 rfl) ?_
 refine Xj rfl rfl rfl (fun hg0 => by subst hg0; (try simp only [Qy]); exact v_eql rfl rfl) fun b65 hb65 => ?_
 refine Xb rfl (v_or rfl rfl) fun b66 hb66 => ?_
 refine Xa ?_
 refine Ze (Zt ?_)
 refine w_cond rfl (fun hc51 => ?_) (fun hc51 => ?_)
 ·have hor : (tagAt s a).size < 3 ∨ a + (tagAt s a).size = s.size := by rw [hb66, hb65, hb54] at hc51; simp only [Bool.or_eq_true, decide_eq_true_eq] at hc51; omega
  have eT : tagR s g a = ((⟨#[]⟩, ((s.size : Nat) : Int), 10), a + (tagAt s a).size) := by unfold tagR; rw [if_neg (fun h => h hall), if_pos hor]
  rw [eT]
  refine Zs ?_
  refine rg_draw 8 [(true, 0), (true, 1), (true, 2), (true, 3), (true, 4), (true, 5), (true, 6), (true, 7)] Zk Zk ?_
  refine Xm ?_
  refine Xv rfl (v_nilCheck rfl) ?_
  refine Xv rfl (v_fieldAddr (off' := 4) u207 rfl sz9 (by decide) rfl rfl) ?_
  refine Xv rfl (v_load u9 rfl rfl (at_ownL (vs := msgC g s (a + (tagAt s a).size)) (List.mem_append_right _ (.head _)) rfl)) ?_
  refine Xv rfl (v_len_str u9 rfl) ?_
  refine Xa ?_
  refine Xa ?_
  refine Xa ?_
  refine Ze (Zt (w_ret (b_ret (t_ret ?_))))
  refine ret3 rfl rfl rfl rfl (fun w' hm' => ⟨?_, hm'⟩)
  rfl
 have hor : ¬((tagAt s a).size < 3 ∨ a + (tagAt s a).size = s.size) := by rw [hb66, hb65, hb54] at hc51; simp only [Bool.or_eq_false_iff, decide_eq_false_iff_not] at hc51; omega
 refine Zs ?_
 refine rg_draw 33 [(true, 0), (true, 1), (true, 2), (true, 3), (true, 4), (true, 5), (true, 6), (true, 7), (true, 8), (true, 9), (true, 10), (true, 11), (true, 12), (true, 13), (true, 14), (true, 15), (true, 16), (true, 17), (true, 18), (true, 19), (true, 20), (true, 21), (true, 22), (true, 23), (true, 24), (true, 25), (true, 26), (true, 27), (true, 28), (true, 29), (true, 30), (true, 31), (true, 32)] Zk Zk ?_
 refine Xm ?_
 refine Xv rfl (v_nilCheck rfl) ?_
 refine Xv rfl (v_fieldAddr (off' := 4) u207 rfl sz9 (by decide) rfl rfl) ?_
 refine Xv rfl (v_load u9 rfl rfl (at_ownL (vs := msgC g s (a + (tagAt s a).size)) (List.mem_append_right _ (.head _)) rfl)) ?_
 refine Xm ?_
 refine Xv rfl (v_nilCheck rfl) ?_
 refine Xv rfl (v_fieldAddr (off' := 5) u207 rfl sz3 (by decide) rfl rfl) ?_
 refine Xv rfl (v_load u3 rfl rfl (at_ownL (vs := msgC g s (a + (tagAt s a).size)) (List.mem_append_right _ (.head _)) rfl)) ?_
 refine Xv rfl (v_index u9 rfl rfl (by omega)) ?_
 refine Xm ?_
 refine Xv rfl (v_nilCheck rfl) ?_
 refine Xv rfl (v_fieldAddr (off' := 0) u207 rfl sz205 (by decide) rfl rfl) ?_
 refine Xv rfl (v_fieldAddr (off' := 1) u205 rfl sz5 (by decide) rfl rfl) ?_
 refine Xv rfl (v_load u5 rfl rfl (at_ownL (vs := msgC g s (a + (tagAt s a).size)) (List.mem_append_right _ (.head _)) rfl)) ?_
 refine Xb rfl (v_neq rfl rfl) fun b87 hb87 => ?_
 refine Xm ?_
 refine Xg ?_
 refine Xi rfl rfl rfl (fun hg0 => by subst hg0; (try simp only [Qy]); exact v_nilCheck rfl) ?_
 refine Xi rfl rfl rfl (fun hg0 => by subst hg0; (try simp only [Qy]); exact v_fieldAddr (off' := 4) u207 rfl sz9 (by decide) rfl rfl) ?_
 refine Xi rfl rfl rfl (fun hg0 => by subst hg0; (try simp only [Qy]); exact v_load u9 rfl rfl (at_ownL (vs := msgC g s (a + (tagAt s a).size)) (List.mem_append_right _ (.head _)) rfl)) ?_
 refine Xg ?_
 refine Xi rfl rfl rfl (fun hg0 => by subst hg0; (try simp only [Qy]); exact v_nilCheck rfl) ?_
 refine Xi rfl rfl rfl (fun hg0 => by subst hg0; (try simp only [Qy]); exact v_fieldAddr (off' := 5) u207 rfl sz3 (by decide) rfl rfl) ?_
 refine Xi rfl rfl rfl (fun hg0 => by subst hg0; (try simp only [Qy]); exact v_load u3 rfl rfl (at_ownL (vs := msgC g s (a + (tagAt s a).size)) (List.mem_append_right _ (.head _)) rfl)) ?_
 refine Xi rfl rfl rfl (fun hg0 => by subst hg0; (try simp only [Qy]); exact v_index u9 rfl rfl (by omega)) ?_
 refine Xg ?_
 refine Xi rfl rfl rfl (fun hg0 => by subst hg0; (try simp only [Qy]); exact v_nilCheck rfl) ?_
 refine Xi rfl rfl rfl (fun hg0 => by subst hg0; (try simp only [Qy]); exact v_fieldAddr (off' := 0) u207 rfl sz205 (by decide) rfl rfl) ?_
 refine Xi rfl rfl rfl (fun hg0 => by subst hg0; (try simp only [Qy]); exact v_fieldAddr (off' := 3) u205 rfl sz5 (by decide) rfl rfl) ?_
 refine Xi rfl rfl rfl (fun hg0 => by subst hg0; (try simp only [Qy]); exact v_load u5 rfl rfl (at_ownL (vs := msgC g s (a + (tagAt s a).size)) (List.mem_append_right _ (.head _)) rfl)) ?_
 refine Xj rfl rfl rfl (fun hg0 => by subst hg0; (try simp only [Qy]); exact v_neq rfl rfl) fun b103 hb103 => ?_
 refine Xb rfl (v_and rfl rfl) fun b104 hb104 => ?_
 refine Xa ?_
 refine Ze (Zt ?_)
 refine w_cond rfl (fun hc72 => ?_) (fun hc72 => ?_)
 ·have hne : byteAt s (a + (tagAt s a).size) ≠ g.e ∧ byteAt s (a + (tagAt s a).size) ≠ g.n := by rw [hb104, hb103, hb87] at hc72; simp only [Bool.and_eq_true, Bool.not_eq_true', decide_eq_false_iff_not, decide_eq_true_eq, ne_eq, u8_lit] at hc72; exact hc72
  have eT : tagR s g a = ((⟨#[]⟩, ((a + (tagAt s a).size : Nat) : Int), 40), a + (tagAt s a).size) := by unfold tagR; rw [if_neg (fun h => h hall), if_neg hor, if_pos hne]
  rw [eT]
  refine Zs ?_
  refine rg_draw 7 [(true, 0), (true, 1), (true, 2), (true, 3), (true, 4), (true, 5), (true, 6)] Zk Zk ?_
  refine Xm ?_
  refine Xv rfl (v_nilCheck rfl) ?_
  refine Xv rfl (v_fieldAddr (off' := 5) u207 rfl sz3 (by decide) rfl rfl) ?_
  refine Xv rfl (v_load u3 rfl rfl (at_ownL (vs := msgC g s (a + (tagAt s a).size)) (List.mem_append_right _ (.head _)) rfl)) ?_
  refine Xa ?_
  refine Xa ?_
  refine Xa ?_
  refine Ze (Zt (w_ret (b_ret (t_ret ?_))))
  refine ret3 rfl rfl rfl rfl (fun w' hm' => ⟨?_, hm'⟩)
  rfl
 have hne : ¬(byteAt s (a + (tagAt s a).size) ≠ g.e ∧ byteAt s (a + (tagAt s a).size) ≠ g.n) := fun ⟨h1, h2⟩ => by rw [hb104, hb103, hb87] at hc72; simp only [u8_lit, ne_eq, h1, h2] at hc72; revert hc72; simp
 have eT : tagR s g a = (((tagAt s a), 0, 0), a + (tagAt s a).size) := by unfold tagR; rw [if_neg (fun h => h hall), if_neg hor, if_neg hne]
 rw [eT]
 refine w_skip (b_norm (Zt (Zs (Zr ?_))))
 refine Xm ?_
 refine Xa ?_
 refine Xa ?_
 refine Xa ?_
 refine Ze (Zt (w_ret ?_))
 refine ret3 rfl rfl rfl rfl (fun w' hm' => ⟨?_, hm'⟩)
 rfl
end Go.Proofs.YtifekogdhjabaaaGreatDoor
