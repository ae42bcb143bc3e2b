/-
  SchemaShadow, proved: it returns true whatever it is given, and what was there is as it was. No conditions.
-/
import Derived.Test.YtmihkbciilloaaaVd
import Derived.Test.YtmihkbciilloaaaPkShell
namespace Go.Proofs.Ytmihkbciilloaaa.schemaShadow
open Go.ChangeShapes Go.WideShapes Go.ChangeAt Go.RowKit Go.PK
set_option linter.unusedVariables false
theorem own : ownKnob Try.prog.godebug = none := by kernel_rfl
theorem laid : laidOutB Try.prog = true := by kernel_rfl
theorem rowed : mapsRowed Try.prog = true := by kernel_rfl
theorem full : ((List.range Try.prog.types.size).all fun t => match Try.prog.underlying t with | some (.slice e) => decide (0 < Try.prog.cellsOf e) | _ => true) = true := by kernel_rfl
set_option maxRecDepth 100000 in
theorem lifted (os : Os) (started : os.Started) (H : Type) (enc : TypeId × Value → H) :
    ReturnsInHanded {} Try.checked os 9 .any (Rows.schemaShadowSpec.pre6 enc Try.prog Try.f9 Rows.schemaShadowRow.domain false) (Rows.schemaShadowSpec.post enc Try.prog Try.f9 false true false false) := by
  refine returnsInHanded_of_change (C := Try.checked) own started (by kernel_rfl) Try.func9
    (ChangeSpec.witness6 (enc := enc) (C := Try.checked) false ⟨#[], #[.slice none 0 0, .slice none 0 0], []⟩ 8 (by kernel_rfl) (by kernel_rfl) (by kernel_rfl) (by kernel_rfl)) ?_
  intro W base args ds gs before hval0 hW hcnd _
  have hval : ∀ (j : Nat) t v, Try.f9.params[j]? = some t → args[j]? = some v → Value.okWide Try.prog W .any base t v := hval0
  have hW' := hW
  obtain ⟨p, q, hA0, hV, rfl, hfz, hnd⟩ := hW
  have hA : DataW.TrodAll enc Try.prog W 0 (fun _ => true) true Try.f9.params.toList args.toList ds p := hA0
  rw [Try.params9] at hA hval
  obtain ⟨rfl, rfl⟩ := trodVars_none hV
  obtain ⟨v0, vs0, d0, ds0, p0, q0, hargs, rfl, rfl, h0, r0⟩ := trodAll_cons hA
  obtain ⟨v1, vs1, d1, ds1, p1, q1, rfl, rfl, rfl, h1, r1⟩ := trodAll_cons r0
  obtain ⟨rfl, rfl, rfl⟩ := trodAll_nil r1
  obtain rfl : args = #[v0, v1] := by cases args; simp_all
  have hv0 := hval 0 28 v0 rfl rfl
  have hv1 := hval 1 28 v1 rfl rfl
  obtain ⟨xs, hxs⟩ := top_slice (T := tyI4) Try.underlying28 (rdr_i4 Try.underlying66 (by kernel_rfl) (by kernel_rfl) Try.underlying3) hv0 h0
  obtain ⟨ls, hls⟩ := top_slice (T := tyI4) Try.underlying28 (rdr_i4 Try.underlying66 (by kernel_rfl) (by kernel_rfl) Try.underlying3) hv1 h1
  clear hA0 hval0
  refine Calls.mono (c9 W hxs hls) fun e W' ⟨he, hg⟩ => ?_
  subst he
  exact ⟨_, rfl, PK.post_true (P := Try.prog) laid rowed full (by kernel_rfl) rfl Try.underlying4 rfl hW' rfl hg⟩

theorem over : Rows.schemaShadowRow.holds Try.pinned (OpenSpec.ofChange Rows.schemaShadowSpec) :=
  OpenClaim.holds_of_wide 9 Try.f9 rfl rfl rfl rfl rfl rfl rfl ⟨rfl, rfl, rfl, rfl, rfl⟩ rfl rfl rfl rfl rfl (by kernel_rfl) Try.func9 (by kernel_rfl)
    (of_decide_eq_true (by kernel_rfl)) (by unfold Func.isWrapper; first | (rw [if_pos (by decide +kernel)]; kernel_rfl) | (rw [if_neg (by decide +kernel)]; exact ⟨rfl, rfl⟩))
    (fun os started H enc _ => lifted os started H enc)

theorem proved : Rows.SchemaShadowSaid :=
  over
#print axioms proved
end Go.Proofs.Ytmihkbciilloaaa.schemaShadow
