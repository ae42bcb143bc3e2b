/-
  AuthorityAny, proved: where what it is given is of bulk at most 1048576 it returns true, and what was there is as it was; the package variables that its row lists hold what the program text lays. No further conditions.
-/
import Derived.Test.YtnflcekodobdlaaGreatDoorT8
import Derived.Test.YtnflcekodobdlaaGreatDoorCards
import Derived.Test.YtnflcekodobdlaaGreatDoorTie
namespace Go.Proofs.YtnflcekodobdlaaGreatDoor.authorityAny
open Go.ChangeShapes Go.WideShapes Go.ChangeAt Go.RowKit Go.PK
set_option linter.unusedVariables false
theorem own : ownKnob Tryz.prog.godebug = none := by kernel_rfl
theorem laid : laidOutB Tryz.prog = true := by kernel_rfl
theorem rowed : mapsRowed Tryz.prog = true := by kernel_rfl
theorem full : ((List.range Tryz.prog.types.size).all fun t => match Tryz.prog.underlying t with | some (.slice e) => decide (0 < Tryz.prog.cellsOf e) | _ => true) = true := by kernel_rfl

set_option maxRecDepth 100000 in
theorem contract (H : Type) (enc : TypeId × Value → H) (W : World) (base : Nat) (args : Array Value) (ds gs : List (DataW H)) (before : List MemPlace)
    (hval0 : ∀ (j : Nat) t v, Tryz.f12.params[j]? = some t → args[j]? = some v → Value.okWide Tryz.prog W .any base t v)
    (hW : DataW.Whole enc Tryz.prog Tryz.f12.params.toList Rows.authorityAnySpec.vars false W args.toList ds gs before) (hL : laidMetH Tryz.prog Rows.authorityAnyUptoRow.laid W) (hS : W.ShapedOpen Tryz.prog) (hk : Rows.uptoSmall H (ds ++ gs) = true) :
    Calls Tryz.prog 12 args W fun e W' => ∃ v, e = .returned v ∧ Rows.authorityAnySpec.post enc Tryz.prog Tryz.f12 false true false false W args v W' := by
  have hval : ∀ (j : Nat) t v, Tryz.f12.params[j]? = some t → args[j]? = some v → Value.okWide Tryz.prog W .any base t v := hval0
  have hW' := hW
  obtain ⟨p, q, hA0, hV, rfl, hfz, hnd⟩ := hW
  have hA : DataW.TrodAll enc Tryz.prog W 0 (fun _ => true) true Tryz.f12.params.toList args.toList ds p := hA0
  rw [Tryz.params12] at hA hval
  obtain ⟨rfl, rfl⟩ := trodVars_none hV
  obtain ⟨v0, vs0, d0, ds0, p0, q0, hargs, rfl, rfl, h0, r0⟩ := trodAll_cons hA
  obtain ⟨rfl, rfl, rfl⟩ := trodAll_nil r0
  obtain rfl : args = #[v0] := by cases args; simp_all
  have hv0 := hval 0 24 v0 rfl rfl
  have hbk : (meas H).all [d0] ≤ 1048576 := by
    have h := of_decide_eq_true (p := Rows.uptoBulkAll ([d0] ++ []) ≤ 1048576) hk
    rw [List.append_nil] at h; exact h
  have hb0 : (meas H).f d0 ≤ 1048576 := Nat.le_trans ((meas H).mem_le (l := [d0]) (by simp)) hbk
  obtain ⟨l, hl, hz⟩ := top_sliceN (N := 1048576) Tryz.underlying24 (rdr_fd (rdrN_struct Tryz.underlying28 (by kernel_rfl) (by decide) (.cons rfl (rdr_i Tryz.underlying3 (by kernel_rfl)).N (.cons rfl (rdr_i Tryz.underlying3 (by kernel_rfl)).N (.cons rfl (rdr_i Tryz.underlying3 (by kernel_rfl)).N (.cons rfl (rdr_i Tryz.underlying3 (by kernel_rfl)).N (.cons rfl (rdr_i Tryz.underlying3 (by kernel_rfl)).N (.cons rfl (rdr_sN Tryz.underlying9 (by kernel_rfl)) (.nil _)))))))))  (meas H) hb0 hv0 h0
  obtain ⟨A0, c0, rfl, _⟩ := id hl
  clear hA0 hval0
  refine Calls.mono (lawAny W hl (ld_of hL hS)) fun e W' ⟨he, hg⟩ => ?_
  subst he
  exact ⟨_, rfl, PK.post_true (P := Tryz.prog) laid rowed full (by kernel_rfl) rfl Tryz.underlying4 rfl hW' rfl hg⟩
theorem reads (os : Os) {H : Type} (enc : TypeId × Value → H) : ∃ places, DataW.whole enc Tryz.prog ((World.laidAll Tryz.prog os laidL).forCall (fun _ _ => 0) ⟨#[], #[.slice none 0 0], []⟩).memory Tryz.f12.params.toList Rows.authorityAnySpec.vars false #[.slice none 0 0].toList 8 = some ([.nil], [], places) :=
  ⟨[], by kernel_rfl⟩
set_option maxRecDepth 100000 in
theorem lifted (os : Os) (started : os.Started) (H : Type) (enc : TypeId × Value → H) (F : Stop.Interp) :
    ReturnsInHanded {} Tryz.checked os 12 .any ((Rows.OpenSpec.upto Rows.authorityAnySpec).preRow enc Tryz.prog Tryz.f12 Rows.authorityAnyUptoRow.domain false Rows.authorityAnyUptoRow.laid) (((Rows.OpenSpec.upto Rows.authorityAnySpec).at F).post enc Tryz.prog Tryz.f12 false true false false) := by
  obtain ⟨places, hx⟩ := reads os enc
  refine returnsInHanded_of_row (C := Tryz.checked) (s := Rows.OpenSpec.upto Rows.authorityAnySpec) own started (by kernel_rfl) Tryz.func12
    (witness_row_at (enc := enc) (C := Tryz.checked) false (World.laidAll Tryz.prog os laidL) #[.slice none 0 0] rfl (by kernel_rfl) (by kernel_rfl) (by kernel_rfl)
      (OpenSpec.preRow_of_cond 8 hx (by kernel_rfl) (fun k hk => by cases hk; kernel_rfl) (by kernel_rfl) (laid_met os _))) ?_
  intro W base args ds gs before hval hW _ hc _ hL hS _
  exact contract H enc W base args ds gs before hval hW hL hS (hc _ rfl)
theorem said : Rows.AuthorityAnyUptoSaid :=
  OpenClaim.holds_of_cond 12 Tryz.f12 rfl rfl rfl rfl rfl rfl rfl ⟨rfl, rfl, rfl, rfl, rfl⟩ rfl rfl rfl rfl rfl (by kernel_rfl) Tryz.func12 (by kernel_rfl)
    (of_decide_eq_true (by kernel_rfl)) (by unfold Func.isWrapper; first | (rw [if_pos (by decide +kernel)]; kernel_rfl) | (rw [if_neg (by decide +kernel)]; exact ⟨rfl, rfl⟩))
    (fun os started H enc _ F => by rw [OpenClaim.pre_eq_preRow]; exact lifted os started H enc F)
theorem plain (f : FuncId) (fn : Func) (hf : Tryz.pinned.checked.prog.funcNamed "pinakes/pinakeslaw08.AuthorityAny" = some f) (hfn : Tryz.pinned.checked.prog.funcs[f]? = some fn) :
    true = Tryz.pinned.checked.prog.looks [] ∧ ∀ (j : Nat) t, fn.params[j]? = some t → Tryz.pinned.checked.prog.wantsStandIn t = false := by
  obtain rfl : f = 12 := Option.some.inj ((show Tryz.prog.funcNamed "pinakes/pinakeslaw08.AuthorityAny" = some 12 by kernel_rfl).symm.trans hf) |>.symm
  obtain rfl : fn = Tryz.f12 := (Option.some.inj (Tryz.func12.symm.trans hfn)).symm
  refine ⟨by kernel_rfl, fun j t ht => ?_⟩
  rw [Tryz.params12] at ht
  obtain rfl : t = 24 := by have := Array.mem_of_getElem? ht; simpa using this
  exact (show Tryz.prog.wantsStandIn 24 = false by kernel_rfl)
theorem proved : Rows.AuthorityAnyUptoCardSaid :=
  Claim7.holds_tied_plain_at .later [] _ _ _ _ said (fun _ h => by cases h) (by kernel_rfl) (fun _ h => by cases h) authorityAnyUpto_row_tie rfl ⟨rfl, rfl⟩ (by kernel_rfl) rfl plain (by kernel_rfl)
#print axioms proved
end Go.Proofs.YtnflcekodobdlaaGreatDoor.authorityAny
