/- Of the proofs of Ytmihkbciilloaaa; see NOTES.md. -/
import Derived.Test.YtmihkbciilloaaaWh
import Derived.Test.YtmihkbciilloaaaPkEq
namespace Go.Proofs.Ytmihkbciilloaaa
open Go.RowKit Go.PK
theorem eq54 (w : World) (a b a' b' : Int) : (Op.equalIn 10000 54 (.agg #[.int .i64 a, .int .i64 b]) (.agg #[.int .i64 a', .int .i64 b'])).run Try.prog w = .ok (decide (a = a' ∧ b = b')) w := by
  have hf : (Try.prog.fieldsOf 54).toList = [⟨ "Field", 3, 0, false, "", "", 0⟩, ⟨ "Kind", 52, 1, false, "", "", 8⟩] := by kernel_rfl
  rw [run_equalIn_struct w 9999 54 _ _ (by kernel_rfl) (by kernel_rfl), hf]
  simp only [Op.eqFields, part]
  simp [run_isAgg Try.underlying3, run_isAgg Try.underlying52, aggT, run_equalIn_int w 9998 3 .i64 .i64 _ _ Try.underlying3, run_equalIn_int w 9998 52 .i64 .i64 _ _ Try.underlying52]
  by_cases h1 : a = a' <;> by_cases h2 : b = b' <;> simp [h1, h2]
theorem eq25 (w : World) (a b a' b' : ByteArray) : (Op.equalIn 9999 25 (.agg #[.string a, .string b]) (.agg #[.string a', .string b'])).run Try.prog w = .ok (decide (a = a' ∧ b = b')) w := by
  obtain ⟨inf, hi, hsz⟩ := Option.map_eq_some_iff.1 sz9
  rw [run_equalIn_array w 9998 _ _ Try.underlying25 hi, show Try.prog.cellsOf 9 = 1 by kernel_rfl]
  simp only [show List.range 2 = [0, 1] from rfl, Op.eqItems, part]
  simp [run_isAgg Try.underlying9, aggT, run_equalIn_string w 9997 9 _ _ Try.underlying9, toList_eq]
  by_cases h1 : a = a' <;> by_cases h2 : b = b' <;> simp [h1, h2]
theorem eq27 (w : World) (r s : Rl) : (Op.equalIn 10000 27 (.agg #[.string r.tag, .bool r.must, .bool r.once, .string r.i0, .string r.i1, .string r.codes, .string r.single]) (.agg #[.string s.tag, .bool s.must, .bool s.once, .string s.i0, .string s.i1, .string s.codes, .string s.single])).run Try.prog w = .ok (decide (r = s)) w := by
  have hf : (Try.prog.fieldsOf 27).toList = [⟨ "Tag", 9, 0, false, "", "", 0⟩, ⟨ "Must", 4, 1, false, "", "", 16⟩, ⟨ "Once", 4, 2, false, "", "", 17⟩, ⟨ "Ind", 25, 3, false, "", "", 24⟩, ⟨ "Codes", 9, 5, false, "", "", 56⟩, ⟨ "Single", 9, 6, false, "", "", 72⟩] := by kernel_rfl
  rw [run_equalIn_struct w 9999 27 _ _ (by kernel_rfl) (by kernel_rfl), hf]
  simp only [Op.eqFields, part]
  obtain ⟨r1, r2, r3, r4, r5, r6, r7⟩ := r
  obtain ⟨s1, s2, s3, s4, s5, s6, s7⟩ := s
  simp [run_isAgg Try.underlying9, run_isAgg Try.underlying4, run_isAgg Try.underlying25, PK.run_sizeOf sz25, aggT, run_equalIn_string w 9998 9 _ _ Try.underlying9, run_equalIn_bool w 9998 4 _ _ Try.underlying4, toList_eq, eq25, Rl.mk.injEq]
  by_cases h1 : r1 = s1 <;> by_cases h2 : r2 = s2 <;> by_cases h3 : r3 = s3 <;> by_cases h4 : r4 = s4 <;> by_cases h5 : r5 = s5 <;> by_cases h6 : r6 = s6 <;> by_cases h7 : r7 = s7 <;> simp [h1, h2, h3, h4, h5, h6, h7]
end Go.Proofs.Ytmihkbciilloaaa
