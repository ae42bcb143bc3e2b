/-
  No cell of these rows narrows 'for every input' (looked for: loops, veiled, ifaces, maps, wideKeys, modest, calm, conditions, laid).
  DERIVED. THE GIVEN ROWS OF THIS SEAT. 8 by the template 'for every input the law returns true; each argument reads behind the call as it read before'; 0 by the template 'total and deterministic' (their statements: YtmihkbciilloaaaTotals.lean).
  GIVEN WITH THE SEED: the statements are not yours to turn. If you find one false, say at which input.
  Laid BY PROGRAM, IN A SANDBOX (cutbox-rows.mjs): the forced cells as the released guide's own fill.sh prints them over the translation 13595042ac1dde25… (all of the seat's roots in one cut). By AI agents, Wed Nov 11 2026. No macro, syntax, notation, axiom, sorry.
-/
import Derived.Test.YtmihkbciilloaaaChecked
import GoSem.Claim
import GoSem.ClaimJoined
import GoSem.ClaimMapViews
import Derived.JoinedTies
import Derived.KernelRfl
namespace Go.Proofs.Ytmihkbciilloaaa
/- THE CELL 'sum', in the pinned program and in every row, IS THE sha256 OF THE DUMP (.gsa) THAT YtmihkbciilloaaaProg.lean LOADS. Nothing in Lean hashes anything: it is a label: what it is worth is what the hold of that sum in a sandbox is worth. -/
noncomputable def Try.pinned : Pinned := { name := "ytmihkbciilloaaa", sum := "13595042ac1dde2573385413d263fa1e62c37a36453ebe25b8eff61293263c4d", checked := Try.checked }
namespace Rows
def none {H : Type} : Left H := { results := [], args := [] }

/-- 'pinakeslaw04.SchemaStandard': WHATEVER THE INPUT: true; the input reads as it did. -/
def schemaStandardSpec : ChangeSpec := { name := "schemaStandard", fn := fun _ => fun
  | [] => { results := [.lit (.bool true)], args := [] }
  | _ => none }
def schemaStandardRow : OpenClaim := { program := "ytmihkbciilloaaa", sum := "13595042ac1dde2573385413d263fa1e62c37a36453ebe25b8eff61293263c4d", func := "pinakes/pinakeslaw04.SchemaStandard", spec := "schemaStandard", inPlace := ["internal/bytealg.IndexByteString", "internal/bytealg.IndexString"], unfollowed := true, recurses := true, named := ["internal/bytealg.MaxLen"], apart := false }
def SchemaStandardSaid : Prop := schemaStandardRow.holds Try.pinned (OpenSpec.ofChange schemaStandardSpec)

/-- ITS FALSE NEIGHBOUR: 'it returns false'. Refute it at one input. -/
def schemaStandardWrong : ChangeSpec := { name := "schemaStandard", fn := fun _ => fun
  | [] => { results := [.lit (.bool false)], args := [] }
  | _ => none }
def SchemaStandardWrongFalsely : Prop := schemaStandardRow.holds Try.pinned (OpenSpec.ofChange schemaStandardWrong)

/-- 'pinakeslaw04.SchemaChecks': WHATEVER THE INPUT: true; the input reads as it did. -/
def schemaChecksSpec : ChangeSpec := { name := "schemaChecks", fn := fun _ => fun
  | [d1, d2, d3] => { results := [.lit (.bool true)], args := [d1, d2, d3] }
  | _ => none }
def schemaChecksRow : OpenClaim := { program := "ytmihkbciilloaaa", sum := "13595042ac1dde2573385413d263fa1e62c37a36453ebe25b8eff61293263c4d", func := "pinakes/pinakeslaw04.SchemaChecks", spec := "schemaChecks", inPlace := ["internal/bytealg.IndexByteString", "internal/bytealg.IndexString"], unfollowed := true, recurses := true, named := ["internal/bytealg.MaxLen"], apart := false }
def SchemaChecksSaid : Prop := schemaChecksRow.holds Try.pinned (OpenSpec.ofChange schemaChecksSpec)

/-- ITS FALSE NEIGHBOUR: 'it returns false'. Refute it at one input. -/
def schemaChecksWrong : ChangeSpec := { name := "schemaChecks", fn := fun _ => fun
  | [d1, d2, d3] => { results := [.lit (.bool false)], args := [d1, d2, d3] }
  | _ => none }
def SchemaChecksWrongFalsely : Prop := schemaChecksRow.holds Try.pinned (OpenSpec.ofChange schemaChecksWrong)

/-- 'pinakeslaw04.SchemaRules': WHATEVER THE INPUT: true; the input reads as it did. -/
def schemaRulesSpec : ChangeSpec := { name := "schemaRules", fn := fun _ => fun
  | [d1, d2, d3] => { results := [.lit (.bool true)], args := [d1, d2, d3] }
  | _ => none }
def schemaRulesRow : OpenClaim := { program := "ytmihkbciilloaaa", sum := "13595042ac1dde2573385413d263fa1e62c37a36453ebe25b8eff61293263c4d", func := "pinakes/pinakeslaw04.SchemaRules", spec := "schemaRules", inPlace := ["internal/bytealg.IndexByteString", "internal/bytealg.IndexString"], unfollowed := true, recurses := true, named := ["internal/bytealg.MaxLen"], apart := false }
def SchemaRulesSaid : Prop := schemaRulesRow.holds Try.pinned (OpenSpec.ofChange schemaRulesSpec)

/-- ITS FALSE NEIGHBOUR: 'it returns false'. Refute it at one input. -/
def schemaRulesWrong : ChangeSpec := { name := "schemaRules", fn := fun _ => fun
  | [d1, d2, d3] => { results := [.lit (.bool false)], args := [d1, d2, d3] }
  | _ => none }
def SchemaRulesWrongFalsely : Prop := schemaRulesRow.holds Try.pinned (OpenSpec.ofChange schemaRulesWrong)

/-- 'pinakeslaw04.SchemaRaw': WHATEVER THE INPUT: true; the input reads as it did. -/
def schemaRawSpec : ChangeSpec := { name := "schemaRaw", fn := fun _ => fun
  | [d1, d2, d3] => { results := [.lit (.bool true)], args := [d1, d2, d3] }
  | _ => none }
def schemaRawRow : OpenClaim := { program := "ytmihkbciilloaaa", sum := "13595042ac1dde2573385413d263fa1e62c37a36453ebe25b8eff61293263c4d", func := "pinakes/pinakeslaw04.SchemaRaw", spec := "schemaRaw", inPlace := ["internal/bytealg.IndexByteString", "internal/bytealg.IndexString"], unfollowed := true, recurses := true, named := ["internal/bytealg.MaxLen"], apart := false }
def SchemaRawSaid : Prop := schemaRawRow.holds Try.pinned (OpenSpec.ofChange schemaRawSpec)

/-- ITS FALSE NEIGHBOUR: 'it returns false'. Refute it at one input. -/
def schemaRawWrong : ChangeSpec := { name := "schemaRaw", fn := fun _ => fun
  | [d1, d2, d3] => { results := [.lit (.bool false)], args := [d1, d2, d3] }
  | _ => none }
def SchemaRawWrongFalsely : Prop := schemaRawRow.holds Try.pinned (OpenSpec.ofChange schemaRawWrong)

/-- 'pinakeslaw04.SchemaAlone': WHATEVER THE INPUT: true; the input reads as it did. -/
def schemaAloneSpec : ChangeSpec := { name := "schemaAlone", fn := fun _ => fun
  | [d1, d2] => { results := [.lit (.bool true)], args := [d1, d2] }
  | _ => none }
def schemaAloneRow : OpenClaim := { program := "ytmihkbciilloaaa", sum := "13595042ac1dde2573385413d263fa1e62c37a36453ebe25b8eff61293263c4d", func := "pinakes/pinakeslaw04.SchemaAlone", spec := "schemaAlone", inPlace := ["internal/bytealg.IndexByteString", "internal/bytealg.IndexString"], unfollowed := true, recurses := true, named := ["internal/bytealg.MaxLen"], apart := false }
def SchemaAloneSaid : Prop := schemaAloneRow.holds Try.pinned (OpenSpec.ofChange schemaAloneSpec)

/-- ITS FALSE NEIGHBOUR: 'it returns false'. Refute it at one input. -/
def schemaAloneWrong : ChangeSpec := { name := "schemaAlone", fn := fun _ => fun
  | [d1, d2] => { results := [.lit (.bool false)], args := [d1, d2] }
  | _ => none }
def SchemaAloneWrongFalsely : Prop := schemaAloneRow.holds Try.pinned (OpenSpec.ofChange schemaAloneWrong)

/-- 'pinakeslaw04.SchemaTexts': WHATEVER THE INPUT: true; the input reads as it did. -/
def schemaTextsSpec : ChangeSpec := { name := "schemaTexts", fn := fun _ => fun
  | [d1, d2] => { results := [.lit (.bool true)], args := [d1, d2] }
  | _ => none }
def schemaTextsRow : OpenClaim := { program := "ytmihkbciilloaaa", sum := "13595042ac1dde2573385413d263fa1e62c37a36453ebe25b8eff61293263c4d", func := "pinakes/pinakeslaw04.SchemaTexts", spec := "schemaTexts", inPlace := ["internal/bytealg.IndexByteString", "internal/bytealg.IndexString"], unfollowed := true, recurses := true, named := ["internal/bytealg.MaxLen"], apart := false }
def SchemaTextsSaid : Prop := schemaTextsRow.holds Try.pinned (OpenSpec.ofChange schemaTextsSpec)

/-- ITS FALSE NEIGHBOUR: 'it returns false'. Refute it at one input. -/
def schemaTextsWrong : ChangeSpec := { name := "schemaTexts", fn := fun _ => fun
  | [d1, d2] => { results := [.lit (.bool false)], args := [d1, d2] }
  | _ => none }
def SchemaTextsWrongFalsely : Prop := schemaTextsRow.holds Try.pinned (OpenSpec.ofChange schemaTextsWrong)

/-- 'pinakeslaw04.SchemaShadow': WHATEVER THE INPUT: true; the input reads as it did. -/
def schemaShadowSpec : ChangeSpec := { name := "schemaShadow", fn := fun _ => fun
  | [d1, d2] => { results := [.lit (.bool true)], args := [d1, d2] }
  | _ => none }
def schemaShadowRow : OpenClaim := { program := "ytmihkbciilloaaa", sum := "13595042ac1dde2573385413d263fa1e62c37a36453ebe25b8eff61293263c4d", func := "pinakes/pinakeslaw04.SchemaShadow", spec := "schemaShadow", inPlace := ["internal/bytealg.IndexByteString", "internal/bytealg.IndexString"], unfollowed := true, recurses := true, named := ["internal/bytealg.MaxLen"], apart := false }
def SchemaShadowSaid : Prop := schemaShadowRow.holds Try.pinned (OpenSpec.ofChange schemaShadowSpec)

/-- ITS FALSE NEIGHBOUR: 'it returns false'. Refute it at one input. -/
def schemaShadowWrong : ChangeSpec := { name := "schemaShadow", fn := fun _ => fun
  | [d1, d2] => { results := [.lit (.bool false)], args := [d1, d2] }
  | _ => none }
def SchemaShadowWrongFalsely : Prop := schemaShadowRow.holds Try.pinned (OpenSpec.ofChange schemaShadowWrong)

/-- 'pinakeslaw04.SchemaKeeps': WHATEVER THE INPUT: true; the input reads as it did. -/
def schemaKeepsSpec : ChangeSpec := { name := "schemaKeeps", fn := fun _ => fun
  | [d1, d2] => { results := [.lit (.bool true)], args := [d1, d2] }
  | _ => none }
def schemaKeepsRow : OpenClaim := { program := "ytmihkbciilloaaa", sum := "13595042ac1dde2573385413d263fa1e62c37a36453ebe25b8eff61293263c4d", func := "pinakes/pinakeslaw04.SchemaKeeps", spec := "schemaKeeps", inPlace := ["internal/bytealg.IndexByteString", "internal/bytealg.IndexString"], unfollowed := true, recurses := true, named := ["internal/bytealg.MaxLen"], apart := false }
def SchemaKeepsSaid : Prop := schemaKeepsRow.holds Try.pinned (OpenSpec.ofChange schemaKeepsSpec)

/-- ITS FALSE NEIGHBOUR: 'it returns false'. Refute it at one input. -/
def schemaKeepsWrong : ChangeSpec := { name := "schemaKeeps", fn := fun _ => fun
  | [d1, d2] => { results := [.lit (.bool false)], args := [d1, d2] }
  | _ => none }
def SchemaKeepsWrongFalsely : Prop := schemaKeepsRow.holds Try.pinned (OpenSpec.ofChange schemaKeepsWrong)

/- THE SECOND FORM. 'bulk': how many values and letters a reading holds, each counted each time it is reached (what is shared counts as often as it is met; a slice's spare places count too). A statement '..UptoSaid' is the law's where the arguments, and the package variables that the reading takes, are together of bulk at most 1048576: NARROWER than '..Said'. Prove '..Said' where nothing that the law and all that it calls make is longer than what came in: it says more and counts as full. Else prove '..UptoSaid'. A law counts once. -/
mutual
def uptoBulk {H : Type} : DataW H → Nat
  | .lit (.string bytes) => bytes.length + 1
  | .lit _ => 1
  | .nil => 1
  | .ptr d => uptoBulk d + 1
  | .slice elems spare => uptoBulkAll elems + uptoBulkAll spare + 1
  | .agg parts => uptoBulkAll parts + 1
  | .iface _ d => uptoBulk d + 1
  | .map entries => uptoBulkEntries entries + 1
  | .held _ => 1
def uptoBulkAll {H : Type} : List (DataW H) → Nat
  | [] => 0
  | d :: r => uptoBulk d + uptoBulkAll r
def uptoBulkEntries {H : Type} : List (Lit × DataW H) → Nat
  | [] => 0
  | x :: r => uptoBulkEntry x + uptoBulkEntries r
def uptoBulkEntry {H : Type} : Lit × DataW H → Nat
  | (.string bytes, d) => bytes.length + uptoBulk d + 1
  | (_, d) => uptoBulk d + 1
 end
def uptoSmall : (H : Type) → List (DataW H) → Bool := fun _ ds => decide (uptoBulkAll ds ≤ 1048576)
def OpenSpec.upto (s : _root_.Go.ChangeSpec) : _root_.Go.OpenSpec := { _root_.Go.OpenSpec.ofChange s with cond := some uptoSmall }

/-- 'pinakeslaw04.SchemaStandard', WHERE WHAT IT READS IS OF BULK AT MOST 1048576: true; the input reads as it did. -/
def schemaStandardUptoRow : OpenClaim := { program := "ytmihkbciilloaaa", sum := "13595042ac1dde2573385413d263fa1e62c37a36453ebe25b8eff61293263c4d", func := "pinakes/pinakeslaw04.SchemaStandard", spec := "schemaStandard", inPlace := ["internal/bytealg.IndexByteString", "internal/bytealg.IndexString"], unfollowed := true, recurses := true, named := ["internal/bytealg.MaxLen"], apart := false, narrowed := true }
def SchemaStandardUptoSaid : Prop := schemaStandardUptoRow.holds Try.pinned (OpenSpec.upto schemaStandardSpec)

/-- 'pinakeslaw04.SchemaChecks', WHERE WHAT IT READS IS OF BULK AT MOST 1048576: true; the input reads as it did. -/
def schemaChecksUptoRow : OpenClaim := { program := "ytmihkbciilloaaa", sum := "13595042ac1dde2573385413d263fa1e62c37a36453ebe25b8eff61293263c4d", func := "pinakes/pinakeslaw04.SchemaChecks", spec := "schemaChecks", inPlace := ["internal/bytealg.IndexByteString", "internal/bytealg.IndexString"], unfollowed := true, recurses := true, named := ["internal/bytealg.MaxLen"], apart := false, narrowed := true }
def SchemaChecksUptoSaid : Prop := schemaChecksUptoRow.holds Try.pinned (OpenSpec.upto schemaChecksSpec)

/-- 'pinakeslaw04.SchemaRules', WHERE WHAT IT READS IS OF BULK AT MOST 1048576: true; the input reads as it did. -/
def schemaRulesUptoRow : OpenClaim := { program := "ytmihkbciilloaaa", sum := "13595042ac1dde2573385413d263fa1e62c37a36453ebe25b8eff61293263c4d", func := "pinakes/pinakeslaw04.SchemaRules", spec := "schemaRules", inPlace := ["internal/bytealg.IndexByteString", "internal/bytealg.IndexString"], unfollowed := true, recurses := true, named := ["internal/bytealg.MaxLen"], apart := false, narrowed := true }
def SchemaRulesUptoSaid : Prop := schemaRulesUptoRow.holds Try.pinned (OpenSpec.upto schemaRulesSpec)

/-- 'pinakeslaw04.SchemaRaw', WHERE WHAT IT READS IS OF BULK AT MOST 1048576: true; the input reads as it did. -/
def schemaRawUptoRow : OpenClaim := { program := "ytmihkbciilloaaa", sum := "13595042ac1dde2573385413d263fa1e62c37a36453ebe25b8eff61293263c4d", func := "pinakes/pinakeslaw04.SchemaRaw", spec := "schemaRaw", inPlace := ["internal/bytealg.IndexByteString", "internal/bytealg.IndexString"], unfollowed := true, recurses := true, named := ["internal/bytealg.MaxLen"], apart := false, narrowed := true }
def SchemaRawUptoSaid : Prop := schemaRawUptoRow.holds Try.pinned (OpenSpec.upto schemaRawSpec)

/-- 'pinakeslaw04.SchemaAlone', WHERE WHAT IT READS IS OF BULK AT MOST 1048576: true; the input reads as it did. -/
def schemaAloneUptoRow : OpenClaim := { program := "ytmihkbciilloaaa", sum := "13595042ac1dde2573385413d263fa1e62c37a36453ebe25b8eff61293263c4d", func := "pinakes/pinakeslaw04.SchemaAlone", spec := "schemaAlone", inPlace := ["internal/bytealg.IndexByteString", "internal/bytealg.IndexString"], unfollowed := true, recurses := true, named := ["internal/bytealg.MaxLen"], apart := false, narrowed := true }
def SchemaAloneUptoSaid : Prop := schemaAloneUptoRow.holds Try.pinned (OpenSpec.upto schemaAloneSpec)

/-- 'pinakeslaw04.SchemaTexts', WHERE WHAT IT READS IS OF BULK AT MOST 1048576: true; the input reads as it did. -/
def schemaTextsUptoRow : OpenClaim := { program := "ytmihkbciilloaaa", sum := "13595042ac1dde2573385413d263fa1e62c37a36453ebe25b8eff61293263c4d", func := "pinakes/pinakeslaw04.SchemaTexts", spec := "schemaTexts", inPlace := ["internal/bytealg.IndexByteString", "internal/bytealg.IndexString"], unfollowed := true, recurses := true, named := ["internal/bytealg.MaxLen"], apart := false, narrowed := true }
def SchemaTextsUptoSaid : Prop := schemaTextsUptoRow.holds Try.pinned (OpenSpec.upto schemaTextsSpec)

/-- 'pinakeslaw04.SchemaShadow', WHERE WHAT IT READS IS OF BULK AT MOST 1048576: true; the input reads as it did. -/
def schemaShadowUptoRow : OpenClaim := { program := "ytmihkbciilloaaa", sum := "13595042ac1dde2573385413d263fa1e62c37a36453ebe25b8eff61293263c4d", func := "pinakes/pinakeslaw04.SchemaShadow", spec := "schemaShadow", inPlace := ["internal/bytealg.IndexByteString", "internal/bytealg.IndexString"], unfollowed := true, recurses := true, named := ["internal/bytealg.MaxLen"], apart := false, narrowed := true }
def SchemaShadowUptoSaid : Prop := schemaShadowUptoRow.holds Try.pinned (OpenSpec.upto schemaShadowSpec)

/-- 'pinakeslaw04.SchemaKeeps', WHERE WHAT IT READS IS OF BULK AT MOST 1048576: true; the input reads as it did. -/
def schemaKeepsUptoRow : OpenClaim := { program := "ytmihkbciilloaaa", sum := "13595042ac1dde2573385413d263fa1e62c37a36453ebe25b8eff61293263c4d", func := "pinakes/pinakeslaw04.SchemaKeeps", spec := "schemaKeeps", inPlace := ["internal/bytealg.IndexByteString", "internal/bytealg.IndexString"], unfollowed := true, recurses := true, named := ["internal/bytealg.MaxLen"], apart := false, narrowed := true }
def SchemaKeepsUptoSaid : Prop := schemaKeepsUptoRow.holds Try.pinned (OpenSpec.upto schemaKeepsSpec)

end Rows
end Go.Proofs.Ytmihkbciilloaaa
