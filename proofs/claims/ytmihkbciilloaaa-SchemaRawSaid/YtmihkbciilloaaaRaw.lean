/-
  SchemaRaw, proved: it returns true whatever it is given, and what was there is as it was. No conditions.
-/
import Derived.Test.YtmihkbciilloaaaWy
import Derived.Test.YtmihkbciilloaaaPkShell2
namespace Go.Proofs.Ytmihkbciilloaaa.schemaRaw
open Go.ChangeShapes Go.WideShapes Go.ChangeAt Go.RowKit Go.PK
set_option linter.unusedVariables false
theorem own : ownKnob Try.prog.godebug = none := by kernel_rfl
theorem laid : laidOutB Try.prog = true := by kernel_rfl
theorem rowed : mapsRowed Try.prog = true := by kernel_rfl
theorem full : ((List.range Try.prog.types.size).all fun t => match Try.prog.underlying t with | some (.slice e) => decide (0 < Try.prog.cellsOf e) | _ => true) = true := by kernel_rfl
set_option maxRecDepth 100000 in
theorem lifted (os : Os) (started : os.Started) (H : Type) (enc : TypeId × Value → H) :
    ReturnsInHanded {} Try.checked os 6 .any (Rows.schemaRawSpec.pre6 enc Try.prog Try.f6 Rows.schemaRawRow.domain false) (Rows.schemaRawSpec.post enc Try.prog Try.f6 false true false false) := by
  refine returnsInHanded_of_change (C := Try.checked) own started (by kernel_rfl) Try.func6
    (ChangeSpec.witness6 (enc := enc) (C := Try.checked) false ⟨#[], #[.agg #[.string ⟨#[]⟩, .string ⟨#[]⟩, .string ⟨#[]⟩, .string ⟨#[]⟩, .string ⟨#[]⟩], .agg #[.string ⟨#[]⟩, .string ⟨#[]⟩, .string ⟨#[]⟩, .string ⟨#[]⟩], .agg #[.string ⟨#[]⟩, .string ⟨#[]⟩, .string ⟨#[]⟩, .string ⟨#[]⟩]], []⟩ 8 (by kernel_rfl) (by kernel_rfl) (by kernel_rfl) (by kernel_rfl)) ?_
  intro W base args ds gs before hval0 hW hcnd _
  have hval : ∀ (j : Nat) t v, Try.f6.params[j]? = some t → args[j]? = some v → Value.okWide Try.prog W .any base t v := hval0
  have hW' := hW
  obtain ⟨p, q, hA0, hV, rfl, hfz, hnd⟩ := hW
  have hA : DataW.TrodAll enc Try.prog W 0 (fun _ => true) true Try.f6.params.toList args.toList ds p := hA0
  rw [Try.params6] at hA hval
  obtain ⟨rfl, rfl⟩ := trodVars_none hV
  obtain ⟨v0, vs0, d0, ds0, p0, q0, hargs, rfl, rfl, h0, r0⟩ := trodAll_cons hA
  obtain ⟨v1, vs1, d1, ds1, p1, q1, rfl, rfl, rfl, h1, r1⟩ := trodAll_cons r0
  obtain ⟨v2, vs2, d2, ds2, p2, q2, rfl, rfl, rfl, h2, r2⟩ := trodAll_cons r1
  obtain ⟨rfl, rfl, rfl⟩ := trodAll_nil r2
  obtain rfl : args = #[v0, v1, v2] := by cases args; simp_all
  have hv0 := hval 0 42 v0 rfl rfl
  have hv1 := hval 1 43 v1 rfl rfl
  have hv2 := hval 2 43 v2 rfl rfl
  obtain ⟨a0, a1, a2, a3, a4, rfl, ha⟩ := top_s5 Try.underlying42 (by kernel_rfl) (by kernel_rfl) Try.underlying9 hv0 h0
  obtain ⟨b0, b1, b2, b3, rfl, hb⟩ := top_s4 Try.underlying43 (by kernel_rfl) (by kernel_rfl) Try.underlying9 hv1 h1
  obtain ⟨c0, c1, c2, c3, rfl, hc⟩ := top_s4 Try.underlying43 (by kernel_rfl) (by kernel_rfl) Try.underlying9 hv2 h2
  clear hA0 hval0
  refine Calls.mono (c6 W ha hb hc) fun e W' ⟨he, hg⟩ => ?_
  subst he
  exact ⟨_, rfl, PK.post_true (P := Try.prog) laid rowed full (by kernel_rfl) rfl Try.underlying4 rfl hW' rfl hg⟩

theorem over : Rows.schemaRawRow.holds Try.pinned (OpenSpec.ofChange Rows.schemaRawSpec) :=
  OpenClaim.holds_of_wide 6 Try.f6 rfl rfl rfl rfl rfl rfl rfl ⟨rfl, rfl, rfl, rfl, rfl⟩ rfl rfl rfl rfl rfl (by kernel_rfl) Try.func6 (by kernel_rfl)
    (of_decide_eq_true (by kernel_rfl)) (by unfold Func.isWrapper; first | (rw [if_pos (by decide +kernel)]; kernel_rfl) | (rw [if_neg (by decide +kernel)]; exact ⟨rfl, rfl⟩))
    (fun os started H enc _ => lifted os started H enc)

theorem proved : Rows.SchemaRawSaid :=
  over
#print axioms proved
end Go.Proofs.Ytmihkbciilloaaa.schemaRaw
