/- Of the proofs of Ytmihkbciilloaaa; see NOTES.md. -/
import Derived.Test.YtmihkbciilloaaaPkRows
/-! The records that numbers determine: as plain functions. -/
namespace Go.PK
open Go Go.RowKit
set_option linter.unusedVariables false
def tagL : List ByteArray := [⟨#[48, 48, 49]⟩, ⟨#[50, 52, 53]⟩, ⟨#[49, 48, 48]⟩, ⟨#[48, 50, 48]⟩, ⟨#[54, 53, 48]⟩, ⟨#[55, 48, 48]⟩, ⟨#[50, 54, 48]⟩, ⟨#[53, 48, 48]⟩, ⟨#[57, 48, 48]⟩, ⟨#[57, 52, 57]⟩, ⟨#[48, 48, 56]⟩, ⟨#[50, 52, 54]⟩, ⟨#[54, 48, 48]⟩, ⟨#[49, 49, 48]⟩, ⟨#[52, 57, 48]⟩, ⟨#[48, 48, 51]⟩, ⟨#[57, 122, 57]⟩, ⟨#[50, 52]⟩, ⟨#[57, 57, 57]⟩, ⟨#[48]⟩]
def textL : List ByteArray := [⟨#[69, 109, 109, 97]⟩, ⟨#[84, 104, 101, 32, 115, 101, 97]⟩, ⟨#[195, 156, 98, 101, 114, 32, 100, 101, 110, 32, 70, 108, 117, 195, 159]⟩, ⟨#[87, 97, 114, 32, 97, 110, 100, 32, 112, 101, 97, 99, 101]⟩, ⟨#[119, 97, 114, 32, 38, 32, 80, 69, 65, 67, 69]⟩, ⟨#[65, 117, 115, 116, 101, 110, 44, 32, 74, 97, 110, 101]⟩, ⟨#[84, 111, 108, 115, 116, 111, 121]⟩, ⟨#[49, 57, 56, 52]⟩, ⟨#[57, 55, 56, 48, 51, 48, 54, 52, 48, 54, 49, 53, 55]⟩, ⟨#[48, 51, 48, 54, 52, 48, 54, 49, 53, 50]⟩, ⟨#[76, 111, 110, 100, 111, 110]⟩, ⟨#[83, 101, 97, 32, 115, 116, 111, 114, 105, 101, 115]⟩, ⟨#[65]⟩, ⟨#[]⟩, ⟨#[69, 109, 109, 97, 32, 97, 110, 100, 32, 116, 104, 101, 32, 115, 101, 97]⟩, ⟨#[49, 57, 57, 57]⟩, ⟨#[99, 49, 57, 57, 57, 46]⟩, ⟨#[82, 105, 118, 101, 114, 115]⟩, ⟨#[79, 99, 101, 97, 110, 115, 32, 45, 45, 32, 72, 105, 115, 116, 111, 114, 121]⟩, ⟨#[112, 101, 97, 99, 101]⟩]
def indL : List ByteArray := [⟨#[49, 48]⟩, ⟨#[32, 32]⟩, ⟨#[49, 32]⟩, ⟨#[48, 48]⟩, ⟨#[48, 32]⟩, ⟨#[32, 48]⟩, ⟨#[51, 32]⟩, ⟨#[49, 50]⟩]
def pickS (l : List ByteArray) (n : Int) : ByteArray := l.getD (n % l.length).toNat ⟨#[]⟩
def tagOf (n : Int) : ByteArray := pickS tagL n
def textOf (n : Int) : ByteArray := pickS textL n
theorem pick_ok {l : List ByteArray} (h : l.all (fun s => decide (s.size ≤ 1000)) = true) (n : Int) : (pickS l n).size ≤ 1000 := by
  unfold pickS
  rw [List.getD_eq_getElem?_getD]
  cases hx : l[(n % l.length).toNat]? with
  | none => show (0 : Nat) ≤ 1000; omega
  | some s =>
    have := List.all_eq_true.1 h s (List.mem_of_getElem? hx)
    simpa using this
theorem tagOf_ok (n : Int) : (tagOf n).size ≤ 1000 := pick_ok (by decide +kernel) n
theorem textOf_ok (n : Int) : (textOf n).size ≤ 1000 := pick_ok (by decide +kernel) n
theorem indOf_ok (n : Int) : (pickS indL n).size ≤ 1000 := pick_ok (by decide +kernel) n
theorem pick_at {l : List ByteArray} {n : Int} {i : Nat} (h : n % (l.length : Nat) = (i : Nat)) (hi : i < l.length) : (l.map Value.string)[i]? = some (.string (pickS l n)) := by
  unfold pickS
  rw [h, List.getElem?_map, List.getD_eq_getElem?_getD, Int.toNat_natCast, List.getElem?_eq_getElem hi]
  rfl
/-- Four numbers. -/
structure I4 where
  a : Int
  b : Int
  c : Int
  d : Int
def in64 (n : Int) : Prop := -9223372036854775808 ≤ n ∧ n ≤ 9223372036854775807
def I4.ok (x : I4) : Prop := in64 x.a ∧ in64 x.b ∧ in64 x.c ∧ in64 x.d
def I4.cells (x : I4) : List Value := [.int .i64 x.a, .int .i64 x.b, .int .i64 x.c, .int .i64 x.d]
def tyI4 : Ty I4 where
  size := 4
  rd := fun _ _ cs x => cs = [.int .i64 x.a, .int .i64 x.b, .int .i64 x.c, .int .i64 x.d] ∧ x.ok
  len := fun h => by rw [h.1]; rfl
  keep := fun h _ => h
def codesL : ByteArray := ⟨#[97, 98, 99, 48, 97, 118, 120, 113]⟩
def madeSub (x : I4) (j : Nat) : Sb := ⟨byteAt codesL ((x.c.tdiv 3 + (j : Int) * (1 + x.b % 3)) % 8).toNat, textOf (IntKind.i64.wrap (x.d + 3 * (j : Int)))⟩
def madeF (x : I4) : Fl :=
  if 1 < (tagOf x.a).size ∧ (tagOf x.a).extract 0 2 = ⟨#[48, 48]⟩ then ⟨tagOf x.a, ⟨#[]⟩, textOf x.d, []⟩
  else ⟨tagOf x.a, pickS indL x.b, ⟨#[]⟩, (List.range (1 + (x.c % 3).toNat)).map (madeSub x)⟩
def made (l : List I4) : List Fl := (l.take 20).map madeF
theorem made_len (l : List I4) : (made l).length ≤ 20 := by simp [made]; omega
theorem made_small (l : List I4) : ∀ f ∈ made l, f.tag.size ≤ 1000 ∧ f.subs.length ≤ 1000 := by
  intro f hf
  obtain ⟨x, _, rfl⟩ := List.mem_map.1 hf
  have h1 := tagOf_ok x.a
  unfold madeF; split
  · exact ⟨h1, Nat.zero_le _⟩
  · refine ⟨h1, ?_⟩
    simp only [List.length_map, List.length_range]
    omega
theorem madeF_ok (x : I4) : (madeF x).ok := by
  have h1 := tagOf_ok x.a
  have h2 := textOf_ok x.d
  have h3 := indOf_ok x.b
  unfold madeF; split <;> refine ⟨?_, ?_, ?_⟩ <;> (unfold okS; simp only; first | omega | decide)
end Go.PK
