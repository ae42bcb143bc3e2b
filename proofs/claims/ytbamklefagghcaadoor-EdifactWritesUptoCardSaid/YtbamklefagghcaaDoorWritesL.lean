/-
  EdifactWrites, proved: where what it is given is of bulk at most 1048576 it returns true, and what was there is as it was; the package variables that its row lists hold what the program text lays. No further conditions.
-/
import Derived.Test.YtbamklefagghcaaDoorM6
import Derived.Test.YtbamklefagghcaaDoorCards
import Derived.Test.YtbamklefagghcaaDoorTie
namespace Go.Proofs.YtbamklefagghcaaDoor.edifactWrites
open Go.ChangeShapes Go.WideShapes Go.ChangeAt Go.RowKit Go.PK
set_option linter.unusedVariables false
theorem own : ownKnob Tryd.prog.godebug = none := by kernel_rfl
theorem laid : laidOutB Tryd.prog = true := by kernel_rfl
theorem rowed : mapsRowed Tryd.prog = true := by kernel_rfl
theorem full : ((List.range Tryd.prog.types.size).all fun t => match Tryd.prog.underlying t with | some (.slice e) => decide (0 < Tryd.prog.cellsOf e) | _ => true) = true := by kernel_rfl

set_option maxRecDepth 100000 in
theorem contract (H : Type) (enc : TypeId × Value → H) (W : World) (base : Nat) (args : Array Value) (ds gs : List (DataW H)) (before : List MemPlace)
    (hval0 : ∀ (j : Nat) t v, Tryd.f4.params[j]? = some t → args[j]? = some v → Value.okWide Tryd.prog W .any base t v)
    (hW : DataW.Whole enc Tryd.prog Tryd.f4.params.toList Rows.edifactWritesSpec.vars false W args.toList ds gs before) (hL : laidMetH Tryd.prog Rows.edifactWritesUptoRow.laid W) (hS : W.ShapedOpen Tryd.prog) (hk : Rows.uptoSmall H (ds ++ gs) = true) :
    Calls Tryd.prog 4 args W fun e W' => ∃ v, e = .returned v ∧ Rows.edifactWritesSpec.post enc Tryd.prog Tryd.f4 false true false false W args v W' := by
  have hval : ∀ (j : Nat) t v, Tryd.f4.params[j]? = some t → args[j]? = some v → Value.okWide Tryd.prog W .any base t v := hval0
  have hW' := hW
  obtain ⟨p, q, hA0, hV, rfl, hfz, hnd⟩ := hW
  have hA : DataW.TrodAll enc Tryd.prog W 0 (fun _ => true) true Tryd.f4.params.toList args.toList ds p := hA0
  rw [Tryd.params4] at hA hval
  obtain ⟨rfl, rfl⟩ := trodVars_none hV
  obtain ⟨v0, vs0, d0, ds0, p0, q0, hargs, rfl, rfl, h0, r0⟩ := trodAll_cons hA
  obtain ⟨v1, vs1, d1, ds1, p1, q1, rfl, rfl, rfl, h1, r1⟩ := trodAll_cons r0
  obtain ⟨v2, vs2, d2, ds2, p2, q2, rfl, rfl, rfl, h2, r2⟩ := trodAll_cons r1
  obtain ⟨rfl, rfl, rfl⟩ := trodAll_nil r2
  obtain rfl : args = #[v0, v1, v2] := by cases args; simp_all
  have hv0 := hval 0 25 v0 rfl rfl
  have hv1 := hval 1 25 v1 rfl rfl
  have hv2 := hval 2 32 v2 rfl rfl
  have hbk : (meas H).all [d0, d1, d2] ≤ 1048576 := by
    have h := of_decide_eq_true (p := Rows.uptoBulkAll ([d0, d1, d2] ++ []) ≤ 1048576) hk
    rw [List.append_nil] at h; exact h
  have hb0 : (meas H).f d0 ≤ 1048576 := Nat.le_trans ((meas H).mem_le (l := [d0, d1, d2]) (by simp)) hbk
  have hb1 : (meas H).f d1 ≤ 1048576 := Nat.le_trans ((meas H).mem_le (l := [d0, d1, d2]) (by simp)) hbk
  have hb2 : (meas H).f d2 ≤ 1048576 := Nat.le_trans ((meas H).mem_le (l := [d0, d1, d2]) (by simp)) hbk
  obtain ⟨tags, hh0, _⟩ := top_sliceN (N := 1048576) Tryd.underlying25 (rdr_sN Tryd.underlying9 (by kernel_rfl)) (meas H) hb0 hv0 h0
  obtain ⟨hr0, hz0⟩ := strN_weak (by decide) hh0
  obtain ⟨texts, hh1, _⟩ := top_sliceN (N := 1048576) Tryd.underlying25 (rdr_sN Tryd.underlying9 (by kernel_rfl)) (meas H) hb1 hv1 h1
  obtain ⟨hr1, hz1⟩ := strN_weak (by decide) hh1
  obtain ⟨l, hl⟩ := top_slice Tryd.underlying32 (rdr_slice Tryd.underlying24 (by kernel_rfl) (rdr_b Tryd.underlying5 (by kernel_rfl))) hv2 h2
  clear hA0 hval0
  refine Calls.mono (c4 W hr0 hr1 hl hz0 hz1 (ld_of hL hS)) fun e W' ⟨he, hg⟩ => ?_
  subst he
  exact ⟨_, rfl, PK.post_true (P := Tryd.prog) laid rowed full (by kernel_rfl) rfl Tryd.underlying4 rfl hW' rfl hg⟩
theorem reads (os : Os) {H : Type} (enc : TypeId × Value → H) : ∃ places, DataW.whole enc Tryd.prog ((World.laidAll Tryd.prog os laidL).forCall (fun _ _ => 0) ⟨#[], #[.slice none 0 0, .slice none 0 0, .slice none 0 0], []⟩).memory Tryd.f4.params.toList Rows.edifactWritesSpec.vars false #[.slice none 0 0, .slice none 0 0, .slice none 0 0].toList 8 = some ([.nil, .nil, .nil], [], places) :=
  ⟨[], by kernel_rfl⟩
set_option maxRecDepth 100000 in
theorem lifted (os : Os) (started : os.Started) (H : Type) (enc : TypeId × Value → H) (F : Stop.Interp) :
    ReturnsInHanded {} Tryd.checked os 4 .any ((Rows.OpenSpec.upto Rows.edifactWritesSpec).preRow enc Tryd.prog Tryd.f4 Rows.edifactWritesUptoRow.domain false Rows.edifactWritesUptoRow.laid) (((Rows.OpenSpec.upto Rows.edifactWritesSpec).at F).post enc Tryd.prog Tryd.f4 false true false false) := by
  obtain ⟨places, hx⟩ := reads os enc
  refine returnsInHanded_of_row (C := Tryd.checked) (s := Rows.OpenSpec.upto Rows.edifactWritesSpec) own started (by kernel_rfl) Tryd.func4
    (witness_row_at (enc := enc) (C := Tryd.checked) false (World.laidAll Tryd.prog os laidL) #[.slice none 0 0, .slice none 0 0, .slice none 0 0] rfl (by kernel_rfl) (by kernel_rfl) (by kernel_rfl)
      (OpenSpec.preRow_of_cond 8 hx (by kernel_rfl) (fun k hk => by cases hk; kernel_rfl) (by kernel_rfl) (laid_met os _))) ?_
  intro W base args ds gs before hval hW _ hc _ hL hS _
  exact contract H enc W base args ds gs before hval hW hL hS (hc _ rfl)
theorem said : Rows.EdifactWritesUptoSaid :=
  OpenClaim.holds_of_cond 4 Tryd.f4 rfl rfl rfl rfl rfl rfl rfl ⟨rfl, rfl, rfl, rfl, rfl⟩ rfl rfl rfl rfl rfl (by kernel_rfl) Tryd.func4 (by kernel_rfl)
    (of_decide_eq_true (by kernel_rfl)) (by unfold Func.isWrapper; first | (rw [if_pos (by decide +kernel)]; kernel_rfl) | (rw [if_neg (by decide +kernel)]; exact ⟨rfl, rfl⟩))
    (fun os started H enc _ F => by rw [OpenClaim.pre_eq_preRow]; exact lifted os started H enc F)
theorem plain (f : FuncId) (fn : Func) (hf : Tryd.pinned.checked.prog.funcNamed "pinakes/pinakeslaw22.EdifactWrites" = some f) (hfn : Tryd.pinned.checked.prog.funcs[f]? = some fn) :
    false = Tryd.pinned.checked.prog.looks [] ∧ ∀ (j : Nat) t, fn.params[j]? = some t → Tryd.pinned.checked.prog.wantsStandIn t = false := by
  obtain rfl : f = 4 := Option.some.inj ((show Tryd.prog.funcNamed "pinakes/pinakeslaw22.EdifactWrites" = some 4 by kernel_rfl).symm.trans hf) |>.symm
  obtain rfl : fn = Tryd.f4 := (Option.some.inj (Tryd.func4.symm.trans hfn)).symm
  refine ⟨by kernel_rfl, fun j t ht => ?_⟩
  rw [Tryd.params4] at ht
  have hm := Array.mem_of_getElem? ht
  simp only [List.mem_toArray, List.mem_cons, List.not_mem_nil, or_false] at hm
  rcases hm with rfl | rfl | rfl
  · exact (show Tryd.prog.wantsStandIn 25 = false by kernel_rfl)
  · exact (show Tryd.prog.wantsStandIn 25 = false by kernel_rfl)
  · exact (show Tryd.prog.wantsStandIn 32 = false by kernel_rfl)
theorem proved : Rows.EdifactWritesUptoCardSaid :=
  Claim7.holds_tied_plain_at .later [] _ _ _ _ said (fun _ h => by cases h) (by kernel_rfl) (fun _ h => by cases h) edifactWritesUpto_row_tie rfl ⟨rfl, rfl⟩ (by kernel_rfl) rfl plain (by kernel_rfl)
#print axioms proved
end Go.Proofs.YtbamklefagghcaaDoor.edifactWrites
