/- Of the proofs of Ytmihkbciilloaaa; see NOTES.md. -/
import Derived.Test.YtmihkbciilloaaaPkShell
namespace Go.PK
open Go Go.ChangeShapes Go.WideShapes Go.ChangeAt Go.RowKit
set_option linter.unusedVariables false
section
variable {H : Type} {enc : TypeId × Value → H} {P : Program} {W : World} {base b0 : Nat} {sp : Nat → Bool} {held : Bool} {r : Reach} {t e : TypeId} {v : Value} {d : DataW H} {ps : List MemPlace}
theorem okS_of {s : ByteArray} (h : s.size ≤ maxLen) : okS s := by unfold maxLen at h; unfold okS; omega
theorem top_s4 (ht : P.underlying t = some (.array 4 e)) (hn : P.cellsOf t = 4) (he : P.cellsOf e = 1) (hi : P.underlying e = some .string) (hval : Value.okWide P W r b0 t v) (h : DataW.Trod enc P W base sp held t v d ps) :
    ∃ a b c d : ByteArray, v = .agg #[.string a, .string b, .string c, .string d] ∧ okS a ∧ okS b ∧ okS c ∧ okS d := by
  obtain ⟨ss, rfl, hl, hs⟩ := top_strs ht hn he hi hval h
  match ss, hl, hs with
  | [a, b, c, d], _, hs => exact ⟨a, b, c, d, rfl, okS_of (hs a (by simp)), okS_of (hs b (by simp)), okS_of (hs c (by simp)), okS_of (hs d (by simp))⟩
theorem top_s5 (ht : P.underlying t = some (.array 5 e)) (hn : P.cellsOf t = 5) (he : P.cellsOf e = 1) (hi : P.underlying e = some .string) (hval : Value.okWide P W r b0 t v) (h : DataW.Trod enc P W base sp held t v d ps) :
    ∃ a b c d f : ByteArray, v = .agg #[.string a, .string b, .string c, .string d, .string f] ∧ okS a ∧ okS b ∧ okS c ∧ okS d ∧ okS f := by
  obtain ⟨ss, rfl, hl, hs⟩ := top_strs ht hn he hi hval h
  match ss, hl, hs with
  | [a, b, c, d, f], _, hs => exact ⟨a, b, c, d, f, rfl, okS_of (hs a (by simp)), okS_of (hs b (by simp)), okS_of (hs c (by simp)), okS_of (hs d (by simp)), okS_of (hs f (by simp))⟩
theorem top_str (ht : P.underlying t = some .string) (hval : Value.okWide P W r b0 t v) (h : DataW.Trod enc P W base sp held t v d ps) : ∃ s, v = .string s ∧ okS s := by
  obtain ⟨n, hn⟩ := h
  obtain ⟨s, hc, _, hs⟩ := DataW.trod_string ht hn
  refine ⟨s, ?_, okS_of hs⟩
  cases v <;> simp_all [Value.okWide, Cell.okWide, Cell.ok, Value.cells]
theorem top_int (ht : P.underlying t = some (.int .i64)) (hval : Value.okWide P W r b0 t v) (h : DataW.Trod enc P W base sp held t v d ps) : ∃ n, v = .int .i64 n ∧ in64 n := by
  obtain ⟨m, hn⟩ := h
  obtain ⟨n, hc, _, hs⟩ := DataW.trod_int ht hn
  refine ⟨n, ?_, wf_in64 hs⟩
  cases v <;> simp_all [Value.okWide, Cell.okWide, Cell.ok, Value.cells]
end
end Go.PK
