/- Of the proofs of Ytmihkbciilloaaa; see NOTES.md. -/
import Derived.Test.YtmihkbciilloaaaPkShell
/-! The rules that numbers determine. -/
namespace Go.PK
open Go Go.RowKit
set_option linter.unusedVariables false
def andI (a b : Int) : Int := IntKind.i64.wrap (BitVec.ofInt IntKind.i64.bits a &&& BitVec.ofInt IntKind.i64.bits b).toNat
section
variable {P : Program} {n : Nat} {l : List (Nat × Value)} {own : List (Nat × Obj)} {ro : List Snap} {t t' ty : TypeId} {x y : Operand} {a b : Int}
theorem v_andi (hx : ev l x = some (.int .i64 a)) (hy : ev l y = some (.int .i64 b)) : OpV P n l own ro (.binOp .and t x y t') ty (.int .i64 (andI a b)) := by
  intro A w o ha _ ho _
  simp [execOp, ho, ha.eval hx, ha.eval hy, eqGuard, binOp, Op.intBits, andI]
end
def rtags (t : ByteArray) : List ByteArray := [t, ⟨#[120, 120, 120]⟩, ⟨#[50, 120, 53]⟩, ⟨#[57, 120, 120]⟩, ⟨#[120, 48, 48]⟩, ⟨#[54, 53, 120]⟩, ⟨#[]⟩, ⟨#[120]⟩]
def s01 : ByteArray := ⟨#[48, 49, 32]⟩
def s02 : ByteArray := ⟨#[32, 48, 50]⟩
def sC : ByteArray := ⟨#[97, 98, 99, 48, 118, 120, 113]⟩
def sS : ByteArray := ⟨#[97, 48, 99, 113]⟩
def ruleOf (x : I4) : Rl where
  tag := pickS (rtags (tagOf x.a)) x.b
  must := decide (andI x.c 1 ≠ 0)
  once := decide (andI x.c 2 ≠ 0)
  i0 := s01.extract 0 (x.c.tdiv 4 % 4).toNat
  i1 := s02.extract 0 (x.c.tdiv 16 % 4).toNat
  codes := sC.extract 0 (x.d % 8).toNat
  single := sS.extract 0 (x.d.tdiv 8 % 5).toNat
def rulesOf (l : List I4) : List Rl := (l.take 8).map ruleOf
theorem rulesOf_len (l : List I4) : (rulesOf l).length ≤ 8 := by simp [rulesOf]; omega
theorem ruleOf_ok (x : I4) : (ruleOf x).ok := by
  have h1 : (pickS (rtags (tagOf x.a)) x.b).size ≤ 1000 := pick_ok (by
    have h := tagOf_ok x.a
    simp only [rtags, List.all_cons, List.all_nil, Bool.and_true, Bool.and_eq_true, decide_eq_true_eq]
    refine ⟨h, ?_⟩
    decide) x.b
  have h2 : ∀ (s : ByteArray) (n : Nat), s.size ≤ 10 → okS (s.extract 0 n) := fun s n h => by
    unfold okS; rw [ByteArray.size_extract]; omega
  exact ⟨by unfold okS; unfold ruleOf; dsimp only; omega, h2 _ _ (by decide), h2 _ _ (by decide), h2 _ _ (by decide), h2 _ _ (by decide)⟩
theorem tdiv_in {c m : Int} (h : in64 c) (hm : 0 < m) : in64 (c.tdiv m) := by
  obtain ⟨h1, h2⟩ := h
  rcases Int.le_total 0 c with h0 | h0
  · rw [Int.tdiv_eq_ediv_of_nonneg h0]
    have a1 := Int.ediv_nonneg h0 (Int.le_of_lt hm)
    have a2 := Int.ediv_le_self m h0
    unfold in64; omega
  · have e : c.tdiv m = -((-c).tdiv m) := by rw [Int.neg_tdiv, Int.neg_neg]
    have a1 := Int.ediv_nonneg (show 0 ≤ -c by omega) (Int.le_of_lt hm)
    have a2 := Int.ediv_le_self m (show 0 ≤ -c by omega)
    rw [e, Int.tdiv_eq_ediv_of_nonneg (by omega)]
    unfold in64; omega
end Go.PK
