/-
  EdifactSigns, proved: where what it is given is of bulk at most 1048576 it returns true, and what was there is as it was; the package variables that its row lists hold what the program text lays. No further conditions.
-/
import Derived.Test.YtbamklefagghcaaDoorM6
import Derived.Test.YtbamklefagghcaaDoorCards
import Derived.Test.YtbamklefagghcaaDoorTie
namespace Go.Proofs.YtbamklefagghcaaDoor.edifactSigns
open Go.ChangeShapes Go.WideShapes Go.ChangeAt Go.RowKit Go.PK
set_option linter.unusedVariables false
theorem own : ownKnob Tryd.prog.godebug = none := by kernel_rfl
theorem laid : laidOutB Tryd.prog = true := by kernel_rfl
theorem rowed : mapsRowed Tryd.prog = true := by kernel_rfl
theorem full : ((List.range Tryd.prog.types.size).all fun t => match Tryd.prog.underlying t with | some (.slice e) => decide (0 < Tryd.prog.cellsOf e) | _ => true) = true := by kernel_rfl
theorem u8of_in {x : Int} (h : IntKind.u8.min ≤ x ∧ x ≤ IntKind.u8.max) : ((u8of x).toNat : Int) = x := by
  have := u8_rng h
  unfold u8of
  rw [UInt8.toNat_ofNat_of_lt' (by show _ < 256; omega)]
  omega
theorem byC_of {xs : List Int} (h : ∀ x ∈ xs, IntKind.u8.min ≤ x ∧ x ≤ IntKind.u8.max) : xs.map (Value.int .u8) = byC (xs.map u8of) := by
  unfold byC
  rw [List.map_map]
  refine List.map_congr_left fun x hx => ?_
  show Value.int .u8 x = Value.int .u8 ((u8of x).toNat : Nat)
  rw [u8of_in (h x hx)]

set_option maxRecDepth 100000 in
theorem contract (H : Type) (enc : TypeId × Value → H) (W : World) (base : Nat) (args : Array Value) (ds gs : List (DataW H)) (before : List MemPlace)
    (hval0 : ∀ (j : Nat) t v, Tryd.f5.params[j]? = some t → args[j]? = some v → Value.okWide Tryd.prog W .any base t v)
    (hW : DataW.Whole enc Tryd.prog Tryd.f5.params.toList Rows.edifactSignsSpec.vars false W args.toList ds gs before) (hL : laidMetH Tryd.prog Rows.edifactSignsUptoRow.laid W) (hS : W.ShapedOpen Tryd.prog) (hk : Rows.uptoSmall H (ds ++ gs) = true) :
    Calls Tryd.prog 5 args W fun e W' => ∃ v, e = .returned v ∧ Rows.edifactSignsSpec.post enc Tryd.prog Tryd.f5 false true false false W args v W' := by
  have hval : ∀ (j : Nat) t v, Tryd.f5.params[j]? = some t → args[j]? = some v → Value.okWide Tryd.prog W .any base t v := hval0
  have hW' := hW
  obtain ⟨p, q, hA0, hV, rfl, hfz, hnd⟩ := hW
  have hA : DataW.TrodAll enc Tryd.prog W 0 (fun _ => true) true Tryd.f5.params.toList args.toList ds p := hA0
  rw [Tryd.params5] at hA hval
  obtain ⟨rfl, rfl⟩ := trodVars_none hV
  obtain ⟨v0, vs0, d0, ds0, p0, q0, hargs, rfl, rfl, h0, r0⟩ := trodAll_cons hA
  obtain ⟨v1, vs1, d1, ds1, p1, q1, rfl, rfl, rfl, h1, r1⟩ := trodAll_cons r0
  obtain ⟨rfl, rfl, rfl⟩ := trodAll_nil r1
  obtain rfl : args = #[v0, v1] := by cases args; simp_all
  have hv0 := hval 0 25 v0 rfl rfl
  have hv1 := hval 1 37 v1 rfl rfl
  have hbk : (meas H).all [d0, d1] ≤ 1048576 := by
    have h := of_decide_eq_true (p := Rows.uptoBulkAll ([d0, d1] ++ []) ≤ 1048576) hk
    rw [List.append_nil] at h; exact h
  have hb0 : (meas H).f d0 ≤ 1048576 := Nat.le_trans ((meas H).mem_le (l := [d0, d1]) (by simp)) hbk
  have hb1 : (meas H).f d1 ≤ 1048576 := Nat.le_trans ((meas H).mem_le (l := [d0, d1]) (by simp)) hbk
  obtain ⟨texts, hh0, _⟩ := top_sliceN (N := 1048576) Tryd.underlying25 (rdr_sN Tryd.underlying9 (by kernel_rfl)) (meas H) hb0 hv0 h0
  obtain ⟨hr0, hz0⟩ := strN_weak (by decide) hh0
  obtain ⟨a, bb, c, f, rfl, ha, hb, hc, hf⟩ := top_k4 Tryd.underlying37 (by kernel_rfl) Tryd.underlying5 (by kernel_rfl) hv1 h1
  have hgc : (#[.int .u8 a, .int .u8 bb, .int .u8 c, .int .u8 f] : Array Value) = (Sg.cells ⟨u8of a, u8of bb, u8of c, u8of f⟩).toArray := by
    unfold Sg.cells; rw [u8of_in ha, u8of_in hb, u8of_in hc, u8of_in hf]
  rw [hgc] at hW' ⊢
  clear hA0 hval0
  refine Calls.mono (c5 ⟨u8of a, u8of bb, u8of c, u8of f⟩ W hr0 hz0 (ld_of hL hS)) fun e W' ⟨he, hg⟩ => ?_
  subst he
  exact ⟨_, rfl, PK.post_true (P := Tryd.prog) laid rowed full (by kernel_rfl) rfl Tryd.underlying4 rfl hW' rfl hg⟩
theorem reads (os : Os) {H : Type} (enc : TypeId × Value → H) : ∃ places, DataW.whole enc Tryd.prog ((World.laidAll Tryd.prog os laidL).forCall (fun _ _ => 0) ⟨#[], #[.slice none 0 0, .agg #[.int .u8 0, .int .u8 0, .int .u8 0, .int .u8 0]], []⟩).memory Tryd.f5.params.toList Rows.edifactSignsSpec.vars false #[.slice none 0 0, .agg #[.int .u8 0, .int .u8 0, .int .u8 0, .int .u8 0]].toList 8 = some ([.nil, .agg [.lit (.int .u8 0), .lit (.int .u8 0), .lit (.int .u8 0), .lit (.int .u8 0)]], [], places) :=
  ⟨[], by kernel_rfl⟩
set_option maxRecDepth 100000 in
theorem lifted (os : Os) (started : os.Started) (H : Type) (enc : TypeId × Value → H) (F : Stop.Interp) :
    ReturnsInHanded {} Tryd.checked os 5 .any ((Rows.OpenSpec.upto Rows.edifactSignsSpec).preRow enc Tryd.prog Tryd.f5 Rows.edifactSignsUptoRow.domain false Rows.edifactSignsUptoRow.laid) (((Rows.OpenSpec.upto Rows.edifactSignsSpec).at F).post enc Tryd.prog Tryd.f5 false true false false) := by
  obtain ⟨places, hx⟩ := reads os enc
  refine returnsInHanded_of_row (C := Tryd.checked) (s := Rows.OpenSpec.upto Rows.edifactSignsSpec) own started (by kernel_rfl) Tryd.func5
    (witness_row_at (enc := enc) (C := Tryd.checked) false (World.laidAll Tryd.prog os laidL) #[.slice none 0 0, .agg #[.int .u8 0, .int .u8 0, .int .u8 0, .int .u8 0]] rfl (by kernel_rfl) (by kernel_rfl) (by kernel_rfl)
      (OpenSpec.preRow_of_cond 8 hx (by kernel_rfl) (fun k hk => by cases hk; kernel_rfl) (by kernel_rfl) (laid_met os _))) ?_
  intro W base args ds gs before hval hW _ hc _ hL hS _
  exact contract H enc W base args ds gs before hval hW hL hS (hc _ rfl)
theorem said : Rows.EdifactSignsUptoSaid :=
  OpenClaim.holds_of_cond 5 Tryd.f5 rfl rfl rfl rfl rfl rfl rfl ⟨rfl, rfl, rfl, rfl, rfl⟩ rfl rfl rfl rfl rfl (by kernel_rfl) Tryd.func5 (by kernel_rfl)
    (of_decide_eq_true (by kernel_rfl)) (by unfold Func.isWrapper; first | (rw [if_pos (by decide +kernel)]; kernel_rfl) | (rw [if_neg (by decide +kernel)]; exact ⟨rfl, rfl⟩))
    (fun os started H enc _ F => by rw [OpenClaim.pre_eq_preRow]; exact lifted os started H enc F)
theorem plain (f : FuncId) (fn : Func) (hf : Tryd.pinned.checked.prog.funcNamed "pinakes/pinakeslaw22.EdifactSigns" = some f) (hfn : Tryd.pinned.checked.prog.funcs[f]? = some fn) :
    false = Tryd.pinned.checked.prog.looks [] ∧ ∀ (j : Nat) t, fn.params[j]? = some t → Tryd.pinned.checked.prog.wantsStandIn t = false := by
  obtain rfl : f = 5 := Option.some.inj ((show Tryd.prog.funcNamed "pinakes/pinakeslaw22.EdifactSigns" = some 5 by kernel_rfl).symm.trans hf) |>.symm
  obtain rfl : fn = Tryd.f5 := (Option.some.inj (Tryd.func5.symm.trans hfn)).symm
  refine ⟨by kernel_rfl, fun j t ht => ?_⟩
  rw [Tryd.params5] at ht
  have hm := Array.mem_of_getElem? ht
  simp only [List.mem_toArray, List.mem_cons, List.not_mem_nil, or_false] at hm
  rcases hm with rfl | rfl
  · exact (show Tryd.prog.wantsStandIn 25 = false by kernel_rfl)
  · exact (show Tryd.prog.wantsStandIn 37 = false by kernel_rfl)
theorem proved : Rows.EdifactSignsUptoCardSaid :=
  Claim7.holds_tied_plain_at .later [] _ _ _ _ said (fun _ h => by cases h) (by kernel_rfl) (fun _ h => by cases h) edifactSignsUpto_row_tie rfl ⟨rfl, rfl⟩ (by kernel_rfl) rfl plain (by kernel_rfl)
#print axioms proved
end Go.Proofs.YtbamklefagghcaaDoor.edifactSigns
