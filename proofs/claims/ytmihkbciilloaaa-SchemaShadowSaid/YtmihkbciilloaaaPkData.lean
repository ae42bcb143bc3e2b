/- Of the proofs of Ytmihkbciilloaaa; see NOTES.md. -/
import Derived.Test.YtmihkbciilloaaaPkCtl
namespace Go.PK
open Go Go.RowKit
set_option linter.unusedVariables false

/-- How a Go type of 'size' cells reads as data: over blocks of the domain D. -/
structure Ty (α : Type) where
  size : Nat
  rd : (Nat → Prop) → World → List Value → α → Prop
  len : ∀ {D w cs x}, rd D w cs x → cs.length = size
  keep : ∀ {D D' : Nat → Prop} {w w' cs x}, rd D w cs x → (∀ k, D k → k < w.heap.size → D' k ∧ w'.heap[k]? = w.heap[k]?) → rd D' w' cs x

/-- What w' keeps of w. -/
def Kept (D D' : Nat → Prop) (w w' : World) : Prop := ∀ k, D k → k < w.heap.size → D' k ∧ w'.heap[k]? = w.heap[k]?
theorem Kept.later {D : Nat → Prop} {w w' : World} (h : Later w w') : Kept D D w w' := fun k hk hlt => ⟨hk, h.block k hlt⟩
theorem Kept.all {D : Nat → Prop} {w w' : World} (h : Later w w') : Kept D (fun _ => True) w w' := fun k hk hlt => ⟨trivial, h.block k hlt⟩
theorem Kept.snap {own : List (Nat × Obj)} {ro : List Snap} {w : World} {s : Snap} {D' : Nat → Prop} (h : Mem w own ro) (hs : s ∈ ro) (hd : ∀ k, s.2 k → k < s.1.heap.size → D' k) : Kept s.2 D' s.1 w :=
  fun k hk hlt => ⟨hd k hk hlt, h.ro_at s hs k hk hlt⟩

def sliceRd {α : Type} (T : Ty α) (D : Nat → Prop) (w : World) (v : Value) (xs : List α) : Prop :=
  ∃ A c, v = .slice A xs.length c ∧ xs.length ≤ c ∧ xs.length ≤ 9223372036854775807 ∧
    (0 < xs.length → ∃ b off, A = some ⟨b, off, none⟩ ∧ D b ∧ b < w.heap.size ∧
      ∀ j (hj : j < xs.length), ∃ cs, (∀ i (hi : i < cs.length), w.cell? ⟨b, off + j * T.size + i, none⟩ = some cs[i]) ∧ T.rd D w cs xs[j])

theorem cell_keep {w w' : World} {b off : Nat} (h : w'.heap[b]? = w.heap[b]?) : w'.cell? ⟨b, off, none⟩ = w.cell? ⟨b, off, none⟩ := World.cell?_of_block (w := w) h

theorem sliceRd.keep {α : Type} {T : Ty α} {D D' : Nat → Prop} {w w' : World} {v : Value} {xs : List α} (h : sliceRd T D w v xs) (hk : Kept D D' w w') : sliceRd T D' w' v xs := by
  obtain ⟨A, c, hv, h1, h2, h3⟩ := h
  refine ⟨A, c, hv, h1, h2, fun hl => ?_⟩
  obtain ⟨b, off, hA, hD, hb, hc⟩ := h3 hl
  obtain ⟨hD', hblk⟩ := hk b hD hb
  refine ⟨b, off, hA, hD', ?_, fun j hj => ?_⟩
  · obtain ⟨cs, h4, h5⟩ := hc 0 hl
    have hh : ∃ o, w.heap[b]? = some o := ⟨_, Array.getElem?_eq_getElem hb⟩
    obtain ⟨o, ho⟩ := hh
    exact heap_lt (hblk.trans ho)
  · obtain ⟨cs, h4, h5⟩ := hc j hj
    exact ⟨cs, fun i hi => (cell_keep hblk).trans (h4 i hi), T.keep h5 hk⟩

theorem sliceRd.take {α : Type} {T : Ty α} {D : Nat → Prop} {w : World} {A : Option Addr} {c : Nat} {xs : List α} (j : Nat) (hj : j ≤ xs.length) (h : sliceRd T D w (.slice A xs.length c) xs) : sliceRd T D w (.slice A j c) (xs.take j) := by
  obtain ⟨A', c', hv, h1, h2, h3⟩ := h
  injection hv with e1 e2 e3
  subst e1 e3
  have hl : (xs.take j).length = j := by simp; omega
  refine ⟨A, c, by rw [hl], by omega, by omega, fun h0 => ?_⟩
  rw [hl] at h0
  obtain ⟨b, off, hA, hD, hb, hc⟩ := h3 (by omega)
  refine ⟨b, off, hA, hD, hb, fun i hi => ?_⟩
  rw [hl] at hi
  obtain ⟨cs, h4, h5⟩ := hc i (by omega)
  exact ⟨cs, h4, by rw [List.getElem_take]; exact h5⟩
def tyInt : Ty Int where
  size := 1
  rd := fun _ _ cs x => cs = [.int .i64 x]
  len := fun h => by subst h; rfl
  keep := fun h _ => h
def okS (s : ByteArray) : Prop := s.size ≤ 9223372036854775807
def tyStr : Ty ByteArray where
  size := 1
  rd := fun _ _ cs x => cs = [.string x] ∧ okS x
  len := fun h => by rw [h.1]; rfl
  keep := fun h _ => h
def tySlice {α : Type} (T : Ty α) : Ty (List α) where
  size := 1
  rd := fun D w cs xs => ∃ v, cs = [v] ∧ sliceRd T D w v xs
  len := fun ⟨v, h, _⟩ => by rw [h]; rfl
  keep := fun ⟨v, h, h2⟩ hk => ⟨v, h, h2.keep hk⟩

structure Sb where
  code : UInt8
  text : ByteArray
deriving DecidableEq
def tySb : Ty Sb where
  size := 2
  rd := fun _ _ cs x => cs = [.int .u8 x.code.toNat, .string x.text] ∧ okS x.text
  len := fun h => by rw [h.1]; rfl
  keep := fun h _ => h
structure Fl where
  tag : ByteArray
  ind : ByteArray
  data : ByteArray
  subs : List Sb
deriving DecidableEq
def Fl.ok (f : Fl) : Prop := okS f.tag ∧ okS f.ind ∧ okS f.data
def tyFl : Ty Fl where
  size := 4
  rd := fun D w cs x => ∃ v, cs = [.string x.tag, .string x.ind, .string x.data, v] ∧ x.ok ∧ sliceRd tySb D w v x.subs
  len := fun ⟨v, h, _⟩ => by rw [h]; rfl
  keep := fun ⟨v, h, h2, h3⟩ hk => ⟨v, h, h2, h3.keep hk⟩
structure Rl where
  tag : ByteArray
  must : Bool
  once : Bool
  i0 : ByteArray
  i1 : ByteArray
  codes : ByteArray
  single : ByteArray
deriving DecidableEq
def Rl.ok (r : Rl) : Prop := okS r.tag ∧ okS r.i0 ∧ okS r.i1 ∧ okS r.codes ∧ okS r.single
def Rl.cells (r : Rl) : List Value := [.string r.tag, .bool r.must, .bool r.once, .string r.i0, .string r.i1, .string r.codes, .string r.single]
def tyRl : Ty Rl where
  size := 7
  rd := fun _ _ cs x => cs = [.string x.tag, .bool x.must, .bool x.once, .string x.i0, .string x.i1, .string x.codes, .string x.single] ∧ x.ok
  len := fun h => by rw [h.1]; rfl
  keep := fun h _ => h
structure Pb where
  field : Int
  kind : Int
deriving DecidableEq
def tyPb : Ty Pb where
  size := 2
  rd := fun _ _ cs x => cs = [.int .i64 x.field, .int .i64 x.kind]
  len := fun h => by rw [h]; rfl
  keep := fun h _ => h
end Go.PK
