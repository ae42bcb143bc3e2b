/-
  NARROWER THAN 'FOR EVERY INPUT', by the rows' own cells (each row's printed sentence says how): AuthorityLineage: laid · AuthoritySplits: laid · AuthorityRewrites: laid · AuthorityMany: laid · AuthorityCircles: laid · AuthorityFollows: laid · AuthorityOrder: laid · AuthorityOld: laid · AuthorityPlays: laid · AuthorityAny: laid · AuthorityNone: laid.
  DERIVED. THE GIVEN ROWS OF THIS SEAT. 11 by the template 'for every input the law returns true; each argument reads behind the call as it read before'; 0 by the template 'total and deterministic' (their statements: YtnflcekodobdlaaGreatDoorTotals.lean).
  GIVEN WITH THE SEED: the statements are not yours to turn. If you find one false, say at which input.
  Laid BY PROGRAM, IN A SANDBOX (cutbox-rows.mjs): the forced cells as the released guide's own fill.sh prints them over the translation 75cdc45f70c6c53d… (all of the seat's roots in one cut). By AI agents, Wed Nov 11 2026. No macro, syntax, notation, axiom, sorry.
-/
import Derived.Test.YtnflcekodobdlaaGreatDoorChecked
import GoSem.Claim
import GoSem.ClaimJoined
import GoSem.ClaimMapViews
import Derived.JoinedTies
import Derived.KernelRfl
namespace Go.Proofs.YtnflcekodobdlaaGreatDoor
/- THE CELL 'sum', in the pinned program and in every row, IS THE sha256 OF THE DUMP (.gsa) THAT YtnflcekodobdlaaGreatDoorProg.lean LOADS. Nothing in Lean hashes anything: it is a label: what it is worth is what the hold of that sum in a sandbox is worth. -/
noncomputable def Tryz.pinned : Pinned := { name := "ytnflcekodobdlaagreatdoor", sum := "75cdc45f70c6c53df8c8571967994f1bfbda133b0ac45a8cba14317e7ac34894", checked := Tryz.checked }
namespace Rows
def none {H : Type} : Left H := { results := [], args := [] }

/- WHAT THE LISTED PACKAGE-LEVEL VARIABLES READ AS WHEN THE CALL BEGINS. Each datum BY PROGRAM (the guide's laid-datum.mjs) off the statement by which the dump's own 'gosem.cut.vars' lays the variable. In a bare row this is a premise. The card (YtnflcekodobdlaaGreatDoorCards.lean) ties it to the program's text. -/
def laid_math_bits_deBruijn32tab {H : Type} : DataW H := .agg [.lit (.int .u8 0), .lit (.int .u8 1), .lit (.int .u8 28), .lit (.int .u8 2), .lit (.int .u8 29), .lit (.int .u8 14), .lit (.int .u8 24), .lit (.int .u8 3), .lit (.int .u8 30), .lit (.int .u8 22), .lit (.int .u8 20), .lit (.int .u8 15), .lit (.int .u8 25), .lit (.int .u8 17), .lit (.int .u8 4), .lit (.int .u8 8), .lit (.int .u8 31), .lit (.int .u8 27), .lit (.int .u8 13), .lit (.int .u8 23), .lit (.int .u8 21), .lit (.int .u8 19), .lit (.int .u8 16), .lit (.int .u8 7), .lit (.int .u8 26), .lit (.int .u8 12), .lit (.int .u8 18), .lit (.int .u8 6), .lit (.int .u8 11), .lit (.int .u8 5), .lit (.int .u8 10), .lit (.int .u8 9)]
def laid_math_bits_deBruijn64tab {H : Type} : DataW H := .agg [.lit (.int .u8 0), .lit (.int .u8 1), .lit (.int .u8 56), .lit (.int .u8 2), .lit (.int .u8 57), .lit (.int .u8 49), .lit (.int .u8 28), .lit (.int .u8 3), .lit (.int .u8 61), .lit (.int .u8 58), .lit (.int .u8 42), .lit (.int .u8 50), .lit (.int .u8 38), .lit (.int .u8 29), .lit (.int .u8 17), .lit (.int .u8 4), .lit (.int .u8 62), .lit (.int .u8 47), .lit (.int .u8 59), .lit (.int .u8 36), .lit (.int .u8 45), .lit (.int .u8 43), .lit (.int .u8 51), .lit (.int .u8 22), .lit (.int .u8 53), .lit (.int .u8 39), .lit (.int .u8 33), .lit (.int .u8 30), .lit (.int .u8 24), .lit (.int .u8 18), .lit (.int .u8 12), .lit (.int .u8 5), .lit (.int .u8 63), .lit (.int .u8 55), .lit (.int .u8 48), .lit (.int .u8 27), .lit (.int .u8 60), .lit (.int .u8 41), .lit (.int .u8 37), .lit (.int .u8 16), .lit (.int .u8 46), .lit (.int .u8 35), .lit (.int .u8 44), .lit (.int .u8 21), .lit (.int .u8 52), .lit (.int .u8 32), .lit (.int .u8 23), .lit (.int .u8 11), .lit (.int .u8 54), .lit (.int .u8 26), .lit (.int .u8 40), .lit (.int .u8 15), .lit (.int .u8 34), .lit (.int .u8 20), .lit (.int .u8 31), .lit (.int .u8 10), .lit (.int .u8 25), .lit (.int .u8 14), .lit (.int .u8 19), .lit (.int .u8 9), .lit (.int .u8 13), .lit (.int .u8 8), .lit (.int .u8 7), .lit (.int .u8 6)]
def laid_internal_strconv_uint64pow10 {H : Type} : DataW H := .agg [.lit (.int .u64 1), .lit (.int .u64 10), .lit (.int .u64 100), .lit (.int .u64 1000), .lit (.int .u64 10000), .lit (.int .u64 100000), .lit (.int .u64 1000000), .lit (.int .u64 10000000), .lit (.int .u64 100000000), .lit (.int .u64 1000000000), .lit (.int .u64 10000000000), .lit (.int .u64 100000000000), .lit (.int .u64 1000000000000), .lit (.int .u64 10000000000000), .lit (.int .u64 100000000000000), .lit (.int .u64 1000000000000000), .lit (.int .u64 10000000000000000), .lit (.int .u64 100000000000000000), .lit (.int .u64 1000000000000000000), .lit (.int .u64 10000000000000000000)]
def laid_strconv_ErrRange {H : Type} : DataW H := .iface "*errors.errorString" (.ptr (.agg [.lit (.string [118, 97, 108, 117, 101, 32, 111, 117, 116, 32, 111, 102, 32, 114, 97, 110, 103, 101])]))
def laid_strconv_ErrSyntax {H : Type} : DataW H := .iface "*errors.errorString" (.ptr (.agg [.lit (.string [105, 110, 118, 97, 108, 105, 100, 32, 115, 121, 110, 116, 97, 120])]))

/-- 'pinakeslaw08.AuthorityLineage': WHATEVER THE INPUT: true; the input reads as it did. -/
def authorityLineageSpec : ChangeSpec := { name := "authorityLineage", fn := fun _ => fun
  | [d1, d2, d3] => { results := [.lit (.bool true)], args := [d1, d2, d3] }
  | _ => none }
def authorityLineageRow : OpenClaim := { program := "ytnflcekodobdlaagreatdoor", sum := "75cdc45f70c6c53df8c8571967994f1bfbda133b0ac45a8cba14317e7ac34894", func := "pinakes/pinakeslaw08.AuthorityLineage", spec := "authorityLineage", inPlace := ["internal/bytealg.IndexByteString", "internal/bytealg.IndexString", "internal/abi.NoEscape", "internal/bytealg.MakeNoZero", "slices.overlaps[pinakes/api.Feed]", "slices.overlaps[pinakes/api.Sub]"], unfollowed := true, recurses := true, named := ["internal/bytealg.MaxLen", "strconv.ErrSyntax", "strconv.ErrRange", "internal/strconv.uint64pow10", "math/bits.deBruijn32tab", "math/bits.deBruijn64tab"], apart := false, laid := [("math/bits.deBruijn32tab", laid_math_bits_deBruijn32tab), ("math/bits.deBruijn64tab", laid_math_bits_deBruijn64tab), ("internal/strconv.uint64pow10", laid_internal_strconv_uint64pow10), ("strconv.ErrRange", laid_strconv_ErrRange), ("strconv.ErrSyntax", laid_strconv_ErrSyntax)] }
def AuthorityLineageSaid : Prop := authorityLineageRow.holds Tryz.pinned (OpenSpec.ofChange authorityLineageSpec)

/-- ITS FALSE NEIGHBOUR: 'it returns false'. Refute it at one input. -/
def authorityLineageWrong : ChangeSpec := { name := "authorityLineage", fn := fun _ => fun
  | [d1, d2, d3] => { results := [.lit (.bool false)], args := [d1, d2, d3] }
  | _ => none }
def AuthorityLineageWrongFalsely : Prop := authorityLineageRow.holds Tryz.pinned (OpenSpec.ofChange authorityLineageWrong)

/-- 'pinakeslaw08.AuthoritySplits': WHATEVER THE INPUT: true; the input reads as it did. -/
def authoritySplitsSpec : ChangeSpec := { name := "authoritySplits", fn := fun _ => fun
  | [d1, d2] => { results := [.lit (.bool true)], args := [d1, d2] }
  | _ => none }
def authoritySplitsRow : OpenClaim := { program := "ytnflcekodobdlaagreatdoor", sum := "75cdc45f70c6c53df8c8571967994f1bfbda133b0ac45a8cba14317e7ac34894", func := "pinakes/pinakeslaw08.AuthoritySplits", spec := "authoritySplits", inPlace := ["internal/bytealg.IndexByteString", "internal/bytealg.IndexString", "internal/abi.NoEscape", "internal/bytealg.MakeNoZero", "slices.overlaps[pinakes/api.Feed]", "slices.overlaps[pinakes/api.Sub]"], unfollowed := true, recurses := true, named := ["internal/bytealg.MaxLen", "strconv.ErrSyntax", "strconv.ErrRange", "internal/strconv.uint64pow10", "math/bits.deBruijn32tab", "math/bits.deBruijn64tab"], apart := false, laid := [("math/bits.deBruijn32tab", laid_math_bits_deBruijn32tab), ("math/bits.deBruijn64tab", laid_math_bits_deBruijn64tab), ("internal/strconv.uint64pow10", laid_internal_strconv_uint64pow10), ("strconv.ErrRange", laid_strconv_ErrRange), ("strconv.ErrSyntax", laid_strconv_ErrSyntax)] }
def AuthoritySplitsSaid : Prop := authoritySplitsRow.holds Tryz.pinned (OpenSpec.ofChange authoritySplitsSpec)

/-- ITS FALSE NEIGHBOUR: 'it returns false'. Refute it at one input. -/
def authoritySplitsWrong : ChangeSpec := { name := "authoritySplits", fn := fun _ => fun
  | [d1, d2] => { results := [.lit (.bool false)], args := [d1, d2] }
  | _ => none }
def AuthoritySplitsWrongFalsely : Prop := authoritySplitsRow.holds Tryz.pinned (OpenSpec.ofChange authoritySplitsWrong)

/-- 'pinakeslaw08.AuthorityRewrites': WHATEVER THE INPUT: true; the input reads as it did. -/
def authorityRewritesSpec : ChangeSpec := { name := "authorityRewrites", fn := fun _ => fun
  | [d1, d2, d3] => { results := [.lit (.bool true)], args := [d1, d2, d3] }
  | _ => none }
def authorityRewritesRow : OpenClaim := { program := "ytnflcekodobdlaagreatdoor", sum := "75cdc45f70c6c53df8c8571967994f1bfbda133b0ac45a8cba14317e7ac34894", func := "pinakes/pinakeslaw08.AuthorityRewrites", spec := "authorityRewrites", inPlace := ["internal/bytealg.IndexByteString", "internal/bytealg.IndexString", "internal/abi.NoEscape", "internal/bytealg.MakeNoZero", "slices.overlaps[pinakes/api.Feed]", "slices.overlaps[pinakes/api.Sub]"], unfollowed := true, recurses := true, named := ["internal/bytealg.MaxLen", "strconv.ErrSyntax", "strconv.ErrRange", "internal/strconv.uint64pow10", "math/bits.deBruijn32tab", "math/bits.deBruijn64tab"], apart := false, laid := [("math/bits.deBruijn32tab", laid_math_bits_deBruijn32tab), ("math/bits.deBruijn64tab", laid_math_bits_deBruijn64tab), ("internal/strconv.uint64pow10", laid_internal_strconv_uint64pow10), ("strconv.ErrRange", laid_strconv_ErrRange), ("strconv.ErrSyntax", laid_strconv_ErrSyntax)] }
def AuthorityRewritesSaid : Prop := authorityRewritesRow.holds Tryz.pinned (OpenSpec.ofChange authorityRewritesSpec)

/-- ITS FALSE NEIGHBOUR: 'it returns false'. Refute it at one input. -/
def authorityRewritesWrong : ChangeSpec := { name := "authorityRewrites", fn := fun _ => fun
  | [d1, d2, d3] => { results := [.lit (.bool false)], args := [d1, d2, d3] }
  | _ => none }
def AuthorityRewritesWrongFalsely : Prop := authorityRewritesRow.holds Tryz.pinned (OpenSpec.ofChange authorityRewritesWrong)

/-- 'pinakeslaw08.AuthorityMany': WHATEVER THE INPUT: true; the input reads as it did. -/
def authorityManySpec : ChangeSpec := { name := "authorityMany", fn := fun _ => fun
  | [d] => { results := [.lit (.bool true)], args := [d] }
  | _ => none }
def authorityManyRow : OpenClaim := { program := "ytnflcekodobdlaagreatdoor", sum := "75cdc45f70c6c53df8c8571967994f1bfbda133b0ac45a8cba14317e7ac34894", func := "pinakes/pinakeslaw08.AuthorityMany", spec := "authorityMany", inPlace := ["internal/bytealg.IndexByteString", "internal/bytealg.IndexString", "internal/abi.NoEscape", "internal/bytealg.MakeNoZero", "slices.overlaps[pinakes/api.Feed]", "slices.overlaps[pinakes/api.Sub]"], unfollowed := true, recurses := true, named := ["internal/bytealg.MaxLen", "strconv.ErrSyntax", "strconv.ErrRange", "internal/strconv.uint64pow10", "math/bits.deBruijn32tab", "math/bits.deBruijn64tab"], apart := false, laid := [("math/bits.deBruijn32tab", laid_math_bits_deBruijn32tab), ("math/bits.deBruijn64tab", laid_math_bits_deBruijn64tab), ("internal/strconv.uint64pow10", laid_internal_strconv_uint64pow10), ("strconv.ErrRange", laid_strconv_ErrRange), ("strconv.ErrSyntax", laid_strconv_ErrSyntax)] }
def AuthorityManySaid : Prop := authorityManyRow.holds Tryz.pinned (OpenSpec.ofChange authorityManySpec)

/-- ITS FALSE NEIGHBOUR: 'it returns false'. Refute it at one input. -/
def authorityManyWrong : ChangeSpec := { name := "authorityMany", fn := fun _ => fun
  | [d] => { results := [.lit (.bool false)], args := [d] }
  | _ => none }
def AuthorityManyWrongFalsely : Prop := authorityManyRow.holds Tryz.pinned (OpenSpec.ofChange authorityManyWrong)

/-- 'pinakeslaw08.AuthorityCircles': WHATEVER THE INPUT: true; the input reads as it did. -/
def authorityCirclesSpec : ChangeSpec := { name := "authorityCircles", fn := fun _ => fun
  | [d] => { results := [.lit (.bool true)], args := [d] }
  | _ => none }
def authorityCirclesRow : OpenClaim := { program := "ytnflcekodobdlaagreatdoor", sum := "75cdc45f70c6c53df8c8571967994f1bfbda133b0ac45a8cba14317e7ac34894", func := "pinakes/pinakeslaw08.AuthorityCircles", spec := "authorityCircles", inPlace := ["internal/bytealg.IndexByteString", "internal/bytealg.IndexString", "internal/abi.NoEscape", "internal/bytealg.MakeNoZero", "slices.overlaps[pinakes/api.Feed]", "slices.overlaps[pinakes/api.Sub]"], unfollowed := true, recurses := true, named := ["internal/bytealg.MaxLen", "strconv.ErrSyntax", "strconv.ErrRange", "internal/strconv.uint64pow10", "math/bits.deBruijn32tab", "math/bits.deBruijn64tab"], apart := false, laid := [("math/bits.deBruijn32tab", laid_math_bits_deBruijn32tab), ("math/bits.deBruijn64tab", laid_math_bits_deBruijn64tab), ("internal/strconv.uint64pow10", laid_internal_strconv_uint64pow10), ("strconv.ErrRange", laid_strconv_ErrRange), ("strconv.ErrSyntax", laid_strconv_ErrSyntax)] }
def AuthorityCirclesSaid : Prop := authorityCirclesRow.holds Tryz.pinned (OpenSpec.ofChange authorityCirclesSpec)

/-- ITS FALSE NEIGHBOUR: 'it returns false'. Refute it at one input. -/
def authorityCirclesWrong : ChangeSpec := { name := "authorityCircles", fn := fun _ => fun
  | [d] => { results := [.lit (.bool false)], args := [d] }
  | _ => none }
def AuthorityCirclesWrongFalsely : Prop := authorityCirclesRow.holds Tryz.pinned (OpenSpec.ofChange authorityCirclesWrong)

/-- 'pinakeslaw08.AuthorityFollows': WHATEVER THE INPUT: true; the input reads as it did. -/
def authorityFollowsSpec : ChangeSpec := { name := "authorityFollows", fn := fun _ => fun
  | [d1, d2, d3] => { results := [.lit (.bool true)], args := [d1, d2, d3] }
  | _ => none }
def authorityFollowsRow : OpenClaim := { program := "ytnflcekodobdlaagreatdoor", sum := "75cdc45f70c6c53df8c8571967994f1bfbda133b0ac45a8cba14317e7ac34894", func := "pinakes/pinakeslaw08.AuthorityFollows", spec := "authorityFollows", inPlace := ["internal/bytealg.IndexByteString", "internal/bytealg.IndexString", "internal/abi.NoEscape", "internal/bytealg.MakeNoZero", "slices.overlaps[pinakes/api.Feed]", "slices.overlaps[pinakes/api.Sub]"], unfollowed := true, recurses := true, named := ["internal/bytealg.MaxLen", "strconv.ErrSyntax", "strconv.ErrRange", "internal/strconv.uint64pow10", "math/bits.deBruijn32tab", "math/bits.deBruijn64tab"], apart := false, laid := [("math/bits.deBruijn32tab", laid_math_bits_deBruijn32tab), ("math/bits.deBruijn64tab", laid_math_bits_deBruijn64tab), ("internal/strconv.uint64pow10", laid_internal_strconv_uint64pow10), ("strconv.ErrRange", laid_strconv_ErrRange), ("strconv.ErrSyntax", laid_strconv_ErrSyntax)] }
def AuthorityFollowsSaid : Prop := authorityFollowsRow.holds Tryz.pinned (OpenSpec.ofChange authorityFollowsSpec)

/-- ITS FALSE NEIGHBOUR: 'it returns false'. Refute it at one input. -/
def authorityFollowsWrong : ChangeSpec := { name := "authorityFollows", fn := fun _ => fun
  | [d1, d2, d3] => { results := [.lit (.bool false)], args := [d1, d2, d3] }
  | _ => none }
def AuthorityFollowsWrongFalsely : Prop := authorityFollowsRow.holds Tryz.pinned (OpenSpec.ofChange authorityFollowsWrong)

/-- 'pinakeslaw08.AuthorityOrder': WHATEVER THE INPUT: true; the input reads as it did. -/
def authorityOrderSpec : ChangeSpec := { name := "authorityOrder", fn := fun _ => fun
  | [d1, d2] => { results := [.lit (.bool true)], args := [d1, d2] }
  | _ => none }
def authorityOrderRow : OpenClaim := { program := "ytnflcekodobdlaagreatdoor", sum := "75cdc45f70c6c53df8c8571967994f1bfbda133b0ac45a8cba14317e7ac34894", func := "pinakes/pinakeslaw08.AuthorityOrder", spec := "authorityOrder", inPlace := ["internal/bytealg.IndexByteString", "internal/bytealg.IndexString", "internal/abi.NoEscape", "internal/bytealg.MakeNoZero", "slices.overlaps[pinakes/api.Feed]", "slices.overlaps[pinakes/api.Sub]"], unfollowed := true, recurses := true, named := ["internal/bytealg.MaxLen", "strconv.ErrSyntax", "strconv.ErrRange", "internal/strconv.uint64pow10", "math/bits.deBruijn32tab", "math/bits.deBruijn64tab"], apart := false, laid := [("math/bits.deBruijn32tab", laid_math_bits_deBruijn32tab), ("math/bits.deBruijn64tab", laid_math_bits_deBruijn64tab), ("internal/strconv.uint64pow10", laid_internal_strconv_uint64pow10), ("strconv.ErrRange", laid_strconv_ErrRange), ("strconv.ErrSyntax", laid_strconv_ErrSyntax)] }
def AuthorityOrderSaid : Prop := authorityOrderRow.holds Tryz.pinned (OpenSpec.ofChange authorityOrderSpec)

/-- ITS FALSE NEIGHBOUR: 'it returns false'. Refute it at one input. -/
def authorityOrderWrong : ChangeSpec := { name := "authorityOrder", fn := fun _ => fun
  | [d1, d2] => { results := [.lit (.bool false)], args := [d1, d2] }
  | _ => none }
def AuthorityOrderWrongFalsely : Prop := authorityOrderRow.holds Tryz.pinned (OpenSpec.ofChange authorityOrderWrong)

/-- 'pinakeslaw08.AuthorityOld': WHATEVER THE INPUT: true; the input reads as it did. -/
def authorityOldSpec : ChangeSpec := { name := "authorityOld", fn := fun _ => fun
  | [d1, d2, d3] => { results := [.lit (.bool true)], args := [d1, d2, d3] }
  | _ => none }
def authorityOldRow : OpenClaim := { program := "ytnflcekodobdlaagreatdoor", sum := "75cdc45f70c6c53df8c8571967994f1bfbda133b0ac45a8cba14317e7ac34894", func := "pinakes/pinakeslaw08.AuthorityOld", spec := "authorityOld", inPlace := ["internal/bytealg.IndexByteString", "internal/bytealg.IndexString", "internal/abi.NoEscape", "internal/bytealg.MakeNoZero", "slices.overlaps[pinakes/api.Feed]", "slices.overlaps[pinakes/api.Sub]"], unfollowed := true, recurses := true, named := ["internal/bytealg.MaxLen", "strconv.ErrSyntax", "strconv.ErrRange", "internal/strconv.uint64pow10", "math/bits.deBruijn32tab", "math/bits.deBruijn64tab"], apart := false, laid := [("math/bits.deBruijn32tab", laid_math_bits_deBruijn32tab), ("math/bits.deBruijn64tab", laid_math_bits_deBruijn64tab), ("internal/strconv.uint64pow10", laid_internal_strconv_uint64pow10), ("strconv.ErrRange", laid_strconv_ErrRange), ("strconv.ErrSyntax", laid_strconv_ErrSyntax)] }
def AuthorityOldSaid : Prop := authorityOldRow.holds Tryz.pinned (OpenSpec.ofChange authorityOldSpec)

/-- ITS FALSE NEIGHBOUR: 'it returns false'. Refute it at one input. -/
def authorityOldWrong : ChangeSpec := { name := "authorityOld", fn := fun _ => fun
  | [d1, d2, d3] => { results := [.lit (.bool false)], args := [d1, d2, d3] }
  | _ => none }
def AuthorityOldWrongFalsely : Prop := authorityOldRow.holds Tryz.pinned (OpenSpec.ofChange authorityOldWrong)

/-- 'pinakeslaw08.AuthorityPlays': WHATEVER THE INPUT: true; the input reads as it did. -/
def authorityPlaysSpec : ChangeSpec := { name := "authorityPlays", fn := fun _ => fun
  | [d] => { results := [.lit (.bool true)], args := [d] }
  | _ => none }
def authorityPlaysRow : OpenClaim := { program := "ytnflcekodobdlaagreatdoor", sum := "75cdc45f70c6c53df8c8571967994f1bfbda133b0ac45a8cba14317e7ac34894", func := "pinakes/pinakeslaw08.AuthorityPlays", spec := "authorityPlays", inPlace := ["internal/bytealg.IndexByteString", "internal/bytealg.IndexString", "internal/abi.NoEscape", "internal/bytealg.MakeNoZero", "slices.overlaps[pinakes/api.Feed]", "slices.overlaps[pinakes/api.Sub]"], unfollowed := true, recurses := true, named := ["internal/bytealg.MaxLen", "strconv.ErrSyntax", "strconv.ErrRange", "internal/strconv.uint64pow10", "math/bits.deBruijn32tab", "math/bits.deBruijn64tab"], apart := false, laid := [("math/bits.deBruijn32tab", laid_math_bits_deBruijn32tab), ("math/bits.deBruijn64tab", laid_math_bits_deBruijn64tab), ("internal/strconv.uint64pow10", laid_internal_strconv_uint64pow10), ("strconv.ErrRange", laid_strconv_ErrRange), ("strconv.ErrSyntax", laid_strconv_ErrSyntax)] }
def AuthorityPlaysSaid : Prop := authorityPlaysRow.holds Tryz.pinned (OpenSpec.ofChange authorityPlaysSpec)

/-- ITS FALSE NEIGHBOUR: 'it returns false'. Refute it at one input. -/
def authorityPlaysWrong : ChangeSpec := { name := "authorityPlays", fn := fun _ => fun
  | [d] => { results := [.lit (.bool false)], args := [d] }
  | _ => none }
def AuthorityPlaysWrongFalsely : Prop := authorityPlaysRow.holds Tryz.pinned (OpenSpec.ofChange authorityPlaysWrong)

/-- 'pinakeslaw08.AuthorityAny': WHATEVER THE INPUT: true; the input reads as it did. -/
def authorityAnySpec : ChangeSpec := { name := "authorityAny", fn := fun _ => fun
  | [d] => { results := [.lit (.bool true)], args := [d] }
  | _ => none }
def authorityAnyRow : OpenClaim := { program := "ytnflcekodobdlaagreatdoor", sum := "75cdc45f70c6c53df8c8571967994f1bfbda133b0ac45a8cba14317e7ac34894", func := "pinakes/pinakeslaw08.AuthorityAny", spec := "authorityAny", inPlace := ["internal/bytealg.IndexByteString", "internal/bytealg.IndexString", "internal/abi.NoEscape", "internal/bytealg.MakeNoZero", "slices.overlaps[pinakes/api.Feed]", "slices.overlaps[pinakes/api.Sub]"], unfollowed := true, recurses := true, named := ["internal/bytealg.MaxLen", "strconv.ErrSyntax", "strconv.ErrRange", "internal/strconv.uint64pow10", "math/bits.deBruijn32tab", "math/bits.deBruijn64tab"], apart := false, laid := [("math/bits.deBruijn32tab", laid_math_bits_deBruijn32tab), ("math/bits.deBruijn64tab", laid_math_bits_deBruijn64tab), ("internal/strconv.uint64pow10", laid_internal_strconv_uint64pow10), ("strconv.ErrRange", laid_strconv_ErrRange), ("strconv.ErrSyntax", laid_strconv_ErrSyntax)] }
def AuthorityAnySaid : Prop := authorityAnyRow.holds Tryz.pinned (OpenSpec.ofChange authorityAnySpec)

/-- ITS FALSE NEIGHBOUR: 'it returns false'. Refute it at one input. -/
def authorityAnyWrong : ChangeSpec := { name := "authorityAny", fn := fun _ => fun
  | [d] => { results := [.lit (.bool false)], args := [d] }
  | _ => none }
def AuthorityAnyWrongFalsely : Prop := authorityAnyRow.holds Tryz.pinned (OpenSpec.ofChange authorityAnyWrong)

/-- 'pinakeslaw08.AuthorityNone': WHATEVER THE INPUT: true; the input reads as it did. -/
def authorityNoneSpec : ChangeSpec := { name := "authorityNone", fn := fun _ => fun
  | [d1, d2, d3] => { results := [.lit (.bool true)], args := [d1, d2, d3] }
  | _ => none }
def authorityNoneRow : OpenClaim := { program := "ytnflcekodobdlaagreatdoor", sum := "75cdc45f70c6c53df8c8571967994f1bfbda133b0ac45a8cba14317e7ac34894", func := "pinakes/pinakeslaw08.AuthorityNone", spec := "authorityNone", inPlace := ["internal/bytealg.IndexByteString", "internal/bytealg.IndexString", "internal/abi.NoEscape", "internal/bytealg.MakeNoZero", "slices.overlaps[pinakes/api.Feed]", "slices.overlaps[pinakes/api.Sub]"], unfollowed := true, recurses := true, named := ["internal/bytealg.MaxLen", "strconv.ErrSyntax", "strconv.ErrRange", "internal/strconv.uint64pow10", "math/bits.deBruijn32tab", "math/bits.deBruijn64tab"], apart := false, laid := [("math/bits.deBruijn32tab", laid_math_bits_deBruijn32tab), ("math/bits.deBruijn64tab", laid_math_bits_deBruijn64tab), ("internal/strconv.uint64pow10", laid_internal_strconv_uint64pow10), ("strconv.ErrRange", laid_strconv_ErrRange), ("strconv.ErrSyntax", laid_strconv_ErrSyntax)] }
def AuthorityNoneSaid : Prop := authorityNoneRow.holds Tryz.pinned (OpenSpec.ofChange authorityNoneSpec)

/-- ITS FALSE NEIGHBOUR: 'it returns false'. Refute it at one input. -/
def authorityNoneWrong : ChangeSpec := { name := "authorityNone", fn := fun _ => fun
  | [d1, d2, d3] => { results := [.lit (.bool false)], args := [d1, d2, d3] }
  | _ => none }
def AuthorityNoneWrongFalsely : Prop := authorityNoneRow.holds Tryz.pinned (OpenSpec.ofChange authorityNoneWrong)

/- THE SECOND FORM. 'bulk': how many values and letters a reading holds, each counted each time it is reached (what is shared counts as often as it is met; a slice's spare places count too). A statement '..UptoSaid' is the law's where the arguments, and the package variables that the reading takes, are together of bulk at most 1048576: NARROWER than '..Said'. Prove '..Said' where nothing that the law and all that it calls make is longer than what came in: it says more and counts as full. Else prove '..UptoSaid'. A law counts once. -/
mutual
def uptoBulk {H : Type} : DataW H → Nat
  | .lit (.string bytes) => bytes.length + 1
  | .lit _ => 1
  | .nil => 1
  | .ptr d => uptoBulk d + 1
  | .slice elems spare => uptoBulkAll elems + uptoBulkAll spare + 1
  | .agg parts => uptoBulkAll parts + 1
  | .iface _ d => uptoBulk d + 1
  | .map entries => uptoBulkEntries entries + 1
  | .held _ => 1
def uptoBulkAll {H : Type} : List (DataW H) → Nat
  | [] => 0
  | d :: r => uptoBulk d + uptoBulkAll r
def uptoBulkEntries {H : Type} : List (Lit × DataW H) → Nat
  | [] => 0
  | x :: r => uptoBulkEntry x + uptoBulkEntries r
def uptoBulkEntry {H : Type} : Lit × DataW H → Nat
  | (.string bytes, d) => bytes.length + uptoBulk d + 1
  | (_, d) => uptoBulk d + 1
 end
def uptoSmall : (H : Type) → List (DataW H) → Bool := fun _ ds => decide (uptoBulkAll ds ≤ 1048576)
def OpenSpec.upto (s : _root_.Go.ChangeSpec) : _root_.Go.OpenSpec := { _root_.Go.OpenSpec.ofChange s with cond := some uptoSmall }

/-- 'pinakeslaw08.AuthorityLineage', WHERE WHAT IT READS IS OF BULK AT MOST 1048576: true; the input reads as it did. -/
def authorityLineageUptoRow : OpenClaim := { program := "ytnflcekodobdlaagreatdoor", sum := "75cdc45f70c6c53df8c8571967994f1bfbda133b0ac45a8cba14317e7ac34894", func := "pinakes/pinakeslaw08.AuthorityLineage", spec := "authorityLineage", inPlace := ["internal/bytealg.IndexByteString", "internal/bytealg.IndexString", "internal/abi.NoEscape", "internal/bytealg.MakeNoZero", "slices.overlaps[pinakes/api.Feed]", "slices.overlaps[pinakes/api.Sub]"], unfollowed := true, recurses := true, named := ["internal/bytealg.MaxLen", "strconv.ErrSyntax", "strconv.ErrRange", "internal/strconv.uint64pow10", "math/bits.deBruijn32tab", "math/bits.deBruijn64tab"], apart := false, laid := [("math/bits.deBruijn32tab", laid_math_bits_deBruijn32tab), ("math/bits.deBruijn64tab", laid_math_bits_deBruijn64tab), ("internal/strconv.uint64pow10", laid_internal_strconv_uint64pow10), ("strconv.ErrRange", laid_strconv_ErrRange), ("strconv.ErrSyntax", laid_strconv_ErrSyntax)], narrowed := true }
def AuthorityLineageUptoSaid : Prop := authorityLineageUptoRow.holds Tryz.pinned (OpenSpec.upto authorityLineageSpec)

/-- 'pinakeslaw08.AuthoritySplits', WHERE WHAT IT READS IS OF BULK AT MOST 1048576: true; the input reads as it did. -/
def authoritySplitsUptoRow : OpenClaim := { program := "ytnflcekodobdlaagreatdoor", sum := "75cdc45f70c6c53df8c8571967994f1bfbda133b0ac45a8cba14317e7ac34894", func := "pinakes/pinakeslaw08.AuthoritySplits", spec := "authoritySplits", inPlace := ["internal/bytealg.IndexByteString", "internal/bytealg.IndexString", "internal/abi.NoEscape", "internal/bytealg.MakeNoZero", "slices.overlaps[pinakes/api.Feed]", "slices.overlaps[pinakes/api.Sub]"], unfollowed := true, recurses := true, named := ["internal/bytealg.MaxLen", "strconv.ErrSyntax", "strconv.ErrRange", "internal/strconv.uint64pow10", "math/bits.deBruijn32tab", "math/bits.deBruijn64tab"], apart := false, laid := [("math/bits.deBruijn32tab", laid_math_bits_deBruijn32tab), ("math/bits.deBruijn64tab", laid_math_bits_deBruijn64tab), ("internal/strconv.uint64pow10", laid_internal_strconv_uint64pow10), ("strconv.ErrRange", laid_strconv_ErrRange), ("strconv.ErrSyntax", laid_strconv_ErrSyntax)], narrowed := true }
def AuthoritySplitsUptoSaid : Prop := authoritySplitsUptoRow.holds Tryz.pinned (OpenSpec.upto authoritySplitsSpec)

/-- 'pinakeslaw08.AuthorityRewrites', WHERE WHAT IT READS IS OF BULK AT MOST 1048576: true; the input reads as it did. -/
def authorityRewritesUptoRow : OpenClaim := { program := "ytnflcekodobdlaagreatdoor", sum := "75cdc45f70c6c53df8c8571967994f1bfbda133b0ac45a8cba14317e7ac34894", func := "pinakes/pinakeslaw08.AuthorityRewrites", spec := "authorityRewrites", inPlace := ["internal/bytealg.IndexByteString", "internal/bytealg.IndexString", "internal/abi.NoEscape", "internal/bytealg.MakeNoZero", "slices.overlaps[pinakes/api.Feed]", "slices.overlaps[pinakes/api.Sub]"], unfollowed := true, recurses := true, named := ["internal/bytealg.MaxLen", "strconv.ErrSyntax", "strconv.ErrRange", "internal/strconv.uint64pow10", "math/bits.deBruijn32tab", "math/bits.deBruijn64tab"], apart := false, laid := [("math/bits.deBruijn32tab", laid_math_bits_deBruijn32tab), ("math/bits.deBruijn64tab", laid_math_bits_deBruijn64tab), ("internal/strconv.uint64pow10", laid_internal_strconv_uint64pow10), ("strconv.ErrRange", laid_strconv_ErrRange), ("strconv.ErrSyntax", laid_strconv_ErrSyntax)], narrowed := true }
def AuthorityRewritesUptoSaid : Prop := authorityRewritesUptoRow.holds Tryz.pinned (OpenSpec.upto authorityRewritesSpec)

/-- 'pinakeslaw08.AuthorityMany', WHERE WHAT IT READS IS OF BULK AT MOST 1048576: true; the input reads as it did. -/
def authorityManyUptoRow : OpenClaim := { program := "ytnflcekodobdlaagreatdoor", sum := "75cdc45f70c6c53df8c8571967994f1bfbda133b0ac45a8cba14317e7ac34894", func := "pinakes/pinakeslaw08.AuthorityMany", spec := "authorityMany", inPlace := ["internal/bytealg.IndexByteString", "internal/bytealg.IndexString", "internal/abi.NoEscape", "internal/bytealg.MakeNoZero", "slices.overlaps[pinakes/api.Feed]", "slices.overlaps[pinakes/api.Sub]"], unfollowed := true, recurses := true, named := ["internal/bytealg.MaxLen", "strconv.ErrSyntax", "strconv.ErrRange", "internal/strconv.uint64pow10", "math/bits.deBruijn32tab", "math/bits.deBruijn64tab"], apart := false, laid := [("math/bits.deBruijn32tab", laid_math_bits_deBruijn32tab), ("math/bits.deBruijn64tab", laid_math_bits_deBruijn64tab), ("internal/strconv.uint64pow10", laid_internal_strconv_uint64pow10), ("strconv.ErrRange", laid_strconv_ErrRange), ("strconv.ErrSyntax", laid_strconv_ErrSyntax)], narrowed := true }
def AuthorityManyUptoSaid : Prop := authorityManyUptoRow.holds Tryz.pinned (OpenSpec.upto authorityManySpec)

/-- 'pinakeslaw08.AuthorityCircles', WHERE WHAT IT READS IS OF BULK AT MOST 1048576: true; the input reads as it did. -/
def authorityCirclesUptoRow : OpenClaim := { program := "ytnflcekodobdlaagreatdoor", sum := "75cdc45f70c6c53df8c8571967994f1bfbda133b0ac45a8cba14317e7ac34894", func := "pinakes/pinakeslaw08.AuthorityCircles", spec := "authorityCircles", inPlace := ["internal/bytealg.IndexByteString", "internal/bytealg.IndexString", "internal/abi.NoEscape", "internal/bytealg.MakeNoZero", "slices.overlaps[pinakes/api.Feed]", "slices.overlaps[pinakes/api.Sub]"], unfollowed := true, recurses := true, named := ["internal/bytealg.MaxLen", "strconv.ErrSyntax", "strconv.ErrRange", "internal/strconv.uint64pow10", "math/bits.deBruijn32tab", "math/bits.deBruijn64tab"], apart := false, laid := [("math/bits.deBruijn32tab", laid_math_bits_deBruijn32tab), ("math/bits.deBruijn64tab", laid_math_bits_deBruijn64tab), ("internal/strconv.uint64pow10", laid_internal_strconv_uint64pow10), ("strconv.ErrRange", laid_strconv_ErrRange), ("strconv.ErrSyntax", laid_strconv_ErrSyntax)], narrowed := true }
def AuthorityCirclesUptoSaid : Prop := authorityCirclesUptoRow.holds Tryz.pinned (OpenSpec.upto authorityCirclesSpec)

/-- 'pinakeslaw08.AuthorityFollows', WHERE WHAT IT READS IS OF BULK AT MOST 1048576: true; the input reads as it did. -/
def authorityFollowsUptoRow : OpenClaim := { program := "ytnflcekodobdlaagreatdoor", sum := "75cdc45f70c6c53df8c8571967994f1bfbda133b0ac45a8cba14317e7ac34894", func := "pinakes/pinakeslaw08.AuthorityFollows", spec := "authorityFollows", inPlace := ["internal/bytealg.IndexByteString", "internal/bytealg.IndexString", "internal/abi.NoEscape", "internal/bytealg.MakeNoZero", "slices.overlaps[pinakes/api.Feed]", "slices.overlaps[pinakes/api.Sub]"], unfollowed := true, recurses := true, named := ["internal/bytealg.MaxLen", "strconv.ErrSyntax", "strconv.ErrRange", "internal/strconv.uint64pow10", "math/bits.deBruijn32tab", "math/bits.deBruijn64tab"], apart := false, laid := [("math/bits.deBruijn32tab", laid_math_bits_deBruijn32tab), ("math/bits.deBruijn64tab", laid_math_bits_deBruijn64tab), ("internal/strconv.uint64pow10", laid_internal_strconv_uint64pow10), ("strconv.ErrRange", laid_strconv_ErrRange), ("strconv.ErrSyntax", laid_strconv_ErrSyntax)], narrowed := true }
def AuthorityFollowsUptoSaid : Prop := authorityFollowsUptoRow.holds Tryz.pinned (OpenSpec.upto authorityFollowsSpec)

/-- 'pinakeslaw08.AuthorityOrder', WHERE WHAT IT READS IS OF BULK AT MOST 1048576: true; the input reads as it did. -/
def authorityOrderUptoRow : OpenClaim := { program := "ytnflcekodobdlaagreatdoor", sum := "75cdc45f70c6c53df8c8571967994f1bfbda133b0ac45a8cba14317e7ac34894", func := "pinakes/pinakeslaw08.AuthorityOrder", spec := "authorityOrder", inPlace := ["internal/bytealg.IndexByteString", "internal/bytealg.IndexString", "internal/abi.NoEscape", "internal/bytealg.MakeNoZero", "slices.overlaps[pinakes/api.Feed]", "slices.overlaps[pinakes/api.Sub]"], unfollowed := true, recurses := true, named := ["internal/bytealg.MaxLen", "strconv.ErrSyntax", "strconv.ErrRange", "internal/strconv.uint64pow10", "math/bits.deBruijn32tab", "math/bits.deBruijn64tab"], apart := false, laid := [("math/bits.deBruijn32tab", laid_math_bits_deBruijn32tab), ("math/bits.deBruijn64tab", laid_math_bits_deBruijn64tab), ("internal/strconv.uint64pow10", laid_internal_strconv_uint64pow10), ("strconv.ErrRange", laid_strconv_ErrRange), ("strconv.ErrSyntax", laid_strconv_ErrSyntax)], narrowed := true }
def AuthorityOrderUptoSaid : Prop := authorityOrderUptoRow.holds Tryz.pinned (OpenSpec.upto authorityOrderSpec)

/-- 'pinakeslaw08.AuthorityOld', WHERE WHAT IT READS IS OF BULK AT MOST 1048576: true; the input reads as it did. -/
def authorityOldUptoRow : OpenClaim := { program := "ytnflcekodobdlaagreatdoor", sum := "75cdc45f70c6c53df8c8571967994f1bfbda133b0ac45a8cba14317e7ac34894", func := "pinakes/pinakeslaw08.AuthorityOld", spec := "authorityOld", inPlace := ["internal/bytealg.IndexByteString", "internal/bytealg.IndexString", "internal/abi.NoEscape", "internal/bytealg.MakeNoZero", "slices.overlaps[pinakes/api.Feed]", "slices.overlaps[pinakes/api.Sub]"], unfollowed := true, recurses := true, named := ["internal/bytealg.MaxLen", "strconv.ErrSyntax", "strconv.ErrRange", "internal/strconv.uint64pow10", "math/bits.deBruijn32tab", "math/bits.deBruijn64tab"], apart := false, laid := [("math/bits.deBruijn32tab", laid_math_bits_deBruijn32tab), ("math/bits.deBruijn64tab", laid_math_bits_deBruijn64tab), ("internal/strconv.uint64pow10", laid_internal_strconv_uint64pow10), ("strconv.ErrRange", laid_strconv_ErrRange), ("strconv.ErrSyntax", laid_strconv_ErrSyntax)], narrowed := true }
def AuthorityOldUptoSaid : Prop := authorityOldUptoRow.holds Tryz.pinned (OpenSpec.upto authorityOldSpec)

/-- 'pinakeslaw08.AuthorityPlays', WHERE WHAT IT READS IS OF BULK AT MOST 1048576: true; the input reads as it did. -/
def authorityPlaysUptoRow : OpenClaim := { program := "ytnflcekodobdlaagreatdoor", sum := "75cdc45f70c6c53df8c8571967994f1bfbda133b0ac45a8cba14317e7ac34894", func := "pinakes/pinakeslaw08.AuthorityPlays", spec := "authorityPlays", inPlace := ["internal/bytealg.IndexByteString", "internal/bytealg.IndexString", "internal/abi.NoEscape", "internal/bytealg.MakeNoZero", "slices.overlaps[pinakes/api.Feed]", "slices.overlaps[pinakes/api.Sub]"], unfollowed := true, recurses := true, named := ["internal/bytealg.MaxLen", "strconv.ErrSyntax", "strconv.ErrRange", "internal/strconv.uint64pow10", "math/bits.deBruijn32tab", "math/bits.deBruijn64tab"], apart := false, laid := [("math/bits.deBruijn32tab", laid_math_bits_deBruijn32tab), ("math/bits.deBruijn64tab", laid_math_bits_deBruijn64tab), ("internal/strconv.uint64pow10", laid_internal_strconv_uint64pow10), ("strconv.ErrRange", laid_strconv_ErrRange), ("strconv.ErrSyntax", laid_strconv_ErrSyntax)], narrowed := true }
def AuthorityPlaysUptoSaid : Prop := authorityPlaysUptoRow.holds Tryz.pinned (OpenSpec.upto authorityPlaysSpec)

/-- 'pinakeslaw08.AuthorityAny', WHERE WHAT IT READS IS OF BULK AT MOST 1048576: true; the input reads as it did. -/
def authorityAnyUptoRow : OpenClaim := { program := "ytnflcekodobdlaagreatdoor", sum := "75cdc45f70c6c53df8c8571967994f1bfbda133b0ac45a8cba14317e7ac34894", func := "pinakes/pinakeslaw08.AuthorityAny", spec := "authorityAny", inPlace := ["internal/bytealg.IndexByteString", "internal/bytealg.IndexString", "internal/abi.NoEscape", "internal/bytealg.MakeNoZero", "slices.overlaps[pinakes/api.Feed]", "slices.overlaps[pinakes/api.Sub]"], unfollowed := true, recurses := true, named := ["internal/bytealg.MaxLen", "strconv.ErrSyntax", "strconv.ErrRange", "internal/strconv.uint64pow10", "math/bits.deBruijn32tab", "math/bits.deBruijn64tab"], apart := false, laid := [("math/bits.deBruijn32tab", laid_math_bits_deBruijn32tab), ("math/bits.deBruijn64tab", laid_math_bits_deBruijn64tab), ("internal/strconv.uint64pow10", laid_internal_strconv_uint64pow10), ("strconv.ErrRange", laid_strconv_ErrRange), ("strconv.ErrSyntax", laid_strconv_ErrSyntax)], narrowed := true }
def AuthorityAnyUptoSaid : Prop := authorityAnyUptoRow.holds Tryz.pinned (OpenSpec.upto authorityAnySpec)

/-- 'pinakeslaw08.AuthorityNone', WHERE WHAT IT READS IS OF BULK AT MOST 1048576: true; the input reads as it did. -/
def authorityNoneUptoRow : OpenClaim := { program := "ytnflcekodobdlaagreatdoor", sum := "75cdc45f70c6c53df8c8571967994f1bfbda133b0ac45a8cba14317e7ac34894", func := "pinakes/pinakeslaw08.AuthorityNone", spec := "authorityNone", inPlace := ["internal/bytealg.IndexByteString", "internal/bytealg.IndexString", "internal/abi.NoEscape", "internal/bytealg.MakeNoZero", "slices.overlaps[pinakes/api.Feed]", "slices.overlaps[pinakes/api.Sub]"], unfollowed := true, recurses := true, named := ["internal/bytealg.MaxLen", "strconv.ErrSyntax", "strconv.ErrRange", "internal/strconv.uint64pow10", "math/bits.deBruijn32tab", "math/bits.deBruijn64tab"], apart := false, laid := [("math/bits.deBruijn32tab", laid_math_bits_deBruijn32tab), ("math/bits.deBruijn64tab", laid_math_bits_deBruijn64tab), ("internal/strconv.uint64pow10", laid_internal_strconv_uint64pow10), ("strconv.ErrRange", laid_strconv_ErrRange), ("strconv.ErrSyntax", laid_strconv_ErrSyntax)], narrowed := true }
def AuthorityNoneUptoSaid : Prop := authorityNoneUptoRow.holds Tryz.pinned (OpenSpec.upto authorityNoneSpec)

end Rows
end Go.Proofs.YtnflcekodobdlaaGreatDoor
