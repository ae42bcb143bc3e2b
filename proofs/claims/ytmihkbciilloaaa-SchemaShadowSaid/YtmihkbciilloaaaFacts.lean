/- Of the proofs of Ytmihkbciilloaaa; see NOTES.md. -/
import Derived.Test.YtmihkbciilloaaaRows
import Derived.Test.YtmihkbciilloaaaPkLib
namespace Go.Proofs.Ytmihkbciilloaaa
theorem sz3 : (Try.prog.info? 3).map (·.size) = some 1 := by kernel_rfl
theorem zr3 : (Try.prog.info? 3).bind (·.zero) = some (.int .i64 0) := by kernel_rfl
theorem sz4 : (Try.prog.info? 4).map (·.size) = some 1 := by kernel_rfl
theorem zr4 : (Try.prog.info? 4).bind (·.zero) = some (.bool false) := by kernel_rfl
theorem sz5 : (Try.prog.info? 5).map (·.size) = some 1 := by kernel_rfl
theorem zr5 : (Try.prog.info? 5).bind (·.zero) = some (.int .u8 0) := by kernel_rfl
theorem sz9 : (Try.prog.info? 9).map (·.size) = some 1 := by kernel_rfl
theorem zr9 : (Try.prog.info? 9).bind (·.zero) = some (.string ⟨#[]⟩) := by kernel_rfl
theorem sz23 : (Try.prog.info? 23).map (·.size) = some 1 := by kernel_rfl
theorem zr23 : (Try.prog.info? 23).bind (·.zero) = some (.slice none 0 0) := by kernel_rfl
theorem sz25 : (Try.prog.info? 25).map (·.size) = some 2 := by kernel_rfl
theorem zr25 : (Try.prog.info? 25).bind (·.zero) = some (.agg #[.string ⟨#[]⟩, .string ⟨#[]⟩]) := by kernel_rfl
theorem sz27 : (Try.prog.info? 27).map (·.size) = some 7 := by kernel_rfl
theorem zr27 : (Try.prog.info? 27).bind (·.zero) = some (.agg #[.string ⟨#[]⟩, .bool false, .bool false, .string ⟨#[]⟩, .string ⟨#[]⟩, .string ⟨#[]⟩, .string ⟨#[]⟩]) := by kernel_rfl
theorem sz28 : (Try.prog.info? 28).map (·.size) = some 1 := by kernel_rfl
theorem zr28 : (Try.prog.info? 28).bind (·.zero) = some (.slice none 0 0) := by kernel_rfl
theorem sz29 : (Try.prog.info? 29).map (·.size) = some 3 := by kernel_rfl
theorem zr29 : (Try.prog.info? 29).bind (·.zero) = some (.agg #[.int .i64 0, .int .i64 0, .int .i64 0]) := by kernel_rfl
theorem sz30 : (Try.prog.info? 30).map (·.size) = some 1 := by kernel_rfl
theorem zr30 : (Try.prog.info? 30).bind (·.zero) = some (.slice none 0 0) := by kernel_rfl
theorem sz32 : (Try.prog.info? 32).map (·.size) = some 3 := by kernel_rfl
theorem zr32 : (Try.prog.info? 32).bind (·.zero) = some (.agg #[.int .u8 0, .int .u8 0, .slice none 0 0]) := by kernel_rfl
theorem sz35 : (Try.prog.info? 35).map (·.size) = some 1 := by kernel_rfl
theorem zr35 : (Try.prog.info? 35).bind (·.zero) = some (.slice none 0 0) := by kernel_rfl
theorem sz42 : (Try.prog.info? 42).map (·.size) = some 5 := by kernel_rfl
theorem zr42 : (Try.prog.info? 42).bind (·.zero) = some (.agg #[.string ⟨#[]⟩, .string ⟨#[]⟩, .string ⟨#[]⟩, .string ⟨#[]⟩, .string ⟨#[]⟩]) := by kernel_rfl
theorem sz43 : (Try.prog.info? 43).map (·.size) = some 4 := by kernel_rfl
theorem zr43 : (Try.prog.info? 43).bind (·.zero) = some (.agg #[.string ⟨#[]⟩, .string ⟨#[]⟩, .string ⟨#[]⟩, .string ⟨#[]⟩]) := by kernel_rfl
theorem sz44 : (Try.prog.info? 44).map (·.size) = some 1 := by kernel_rfl
theorem zr44 : (Try.prog.info? 44).bind (·.zero) = some (.slice none 0 0) := by kernel_rfl
theorem sz46 : (Try.prog.info? 46).map (·.size) = some 4 := by kernel_rfl
theorem zr46 : (Try.prog.info? 46).bind (·.zero) = some (.agg #[.string ⟨#[]⟩, .string ⟨#[]⟩, .string ⟨#[]⟩, .slice none 0 0]) := by kernel_rfl
theorem sz48 : (Try.prog.info? 48).map (·.size) = some 2 := by kernel_rfl
theorem zr48 : (Try.prog.info? 48).bind (·.zero) = some (.agg #[.int .u8 0, .string ⟨#[]⟩]) := by kernel_rfl
theorem sz51 : (Try.prog.info? 51).map (·.size) = some 1 := by kernel_rfl
theorem zr51 : (Try.prog.info? 51).bind (·.zero) = some (.map none) := by kernel_rfl
theorem sz52 : (Try.prog.info? 52).map (·.size) = some 1 := by kernel_rfl
theorem zr52 : (Try.prog.info? 52).bind (·.zero) = some (.int .i64 0) := by kernel_rfl
theorem sz54 : (Try.prog.info? 54).map (·.size) = some 2 := by kernel_rfl
theorem zr54 : (Try.prog.info? 54).bind (·.zero) = some (.agg #[.int .i64 0, .int .i64 0]) := by kernel_rfl
theorem sz65 : (Try.prog.info? 65).map (·.size) = some 1 := by kernel_rfl
theorem zr65 : (Try.prog.info? 65).bind (·.zero) = some (.slice none 0 0) := by kernel_rfl
theorem sz66 : (Try.prog.info? 66).map (·.size) = some 4 := by kernel_rfl
theorem zr66 : (Try.prog.info? 66).bind (·.zero) = some (.agg #[.int .i64 0, .int .i64 0, .int .i64 0, .int .i64 0]) := by kernel_rfl
theorem sz67 : (Try.prog.info? 67).map (·.size) = some 1 := by kernel_rfl
theorem zr67 : (Try.prog.info? 67).bind (·.zero) = some (.slice none 0 0) := by kernel_rfl
theorem sz70 : (Try.prog.info? 70).map (·.size) = some 1 := by kernel_rfl
theorem zr70 : (Try.prog.info? 70).bind (·.zero) = some (.map none) := by kernel_rfl
theorem sz72 : (Try.prog.info? 72).map (·.size) = some 1 := by kernel_rfl
theorem zr72 : (Try.prog.info? 72).bind (·.zero) = some (.slice none 0 0) := by kernel_rfl
theorem sz75 : (Try.prog.info? 75).map (·.size) = some 1 := by kernel_rfl
theorem zr75 : (Try.prog.info? 75).bind (·.zero) = some (.nilFunc) := by kernel_rfl
theorem sz77 : (Try.prog.info? 77).map (·.size) = some 9 := by kernel_rfl
theorem zr77 : (Try.prog.info? 77).bind (·.zero) = some (.agg #[.slice none 0 0, .int .i64 0, .string ⟨#[]⟩, .bool false, .bool false, .string ⟨#[]⟩, .string ⟨#[]⟩, .string ⟨#[]⟩, .string ⟨#[]⟩]) := by kernel_rfl
theorem sz78 : (Try.prog.info? 78).map (·.size) = some 1 := by kernel_rfl
theorem zr78 : (Try.prog.info? 78).bind (·.zero) = some (.nilFunc) := by kernel_rfl
theorem sz80 : (Try.prog.info? 80).map (·.size) = some 3 := by kernel_rfl
theorem zr80 : (Try.prog.info? 80).bind (·.zero) = some (.agg #[.int .i64 0, .bool false, .nilFunc]) := by kernel_rfl
theorem sz87 : (Try.prog.info? 87).map (·.size) = some 1 := by kernel_rfl
theorem zr87 : (Try.prog.info? 87).bind (·.zero) = some (.nilFunc) := by kernel_rfl
theorem sz88 : (Try.prog.info? 88).map (·.size) = some 256 := by kernel_rfl
theorem zr88 : (Try.prog.info? 88).bind (·.zero) = some (.agg (List.replicate 256 (.bool false)).toArray) := by kernel_rfl
theorem sz90 : (Try.prog.info? 90).map (·.size) = some 1 := by kernel_rfl
theorem zr90 : (Try.prog.info? 90).bind (·.zero) = some (.nilFunc) := by kernel_rfl
theorem sz96 : (Try.prog.info? 96).map (·.size) = some 1 := by kernel_rfl
theorem zr96 : (Try.prog.info? 96).bind (·.zero) = some (.int .u32 0) := by kernel_rfl
end Go.Proofs.Ytmihkbciilloaaa
