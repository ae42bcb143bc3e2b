/- Of the proofs of Ytmihkbciilloaaa; see NOTES.md. -/
import Derived.Test.YtmihkbciilloaaaPkFill
import Derived.Laws.StructEq
import Derived.ChangeKeysEq
namespace Go.PK
open Go Go.RowKit
section
variable {P : Program} {n : Nat} {l : List (Nat × Value)} {own : List (Nat × Obj)} {ro : List Snap} {ty t t' : TypeId} {x y : Operand} {xs ys : Array Value} {b : Bool}
/-- Structs are compared. -/
theorem v_eqA (hm : P.eqGuardType P.depth t = false) (hx : ev l x = some (.agg xs)) (hy : ev l y = some (.agg ys)) (he : ∀ w, (Op.equalIn 10000 t (.agg xs) (.agg ys)).run P w = .ok b w) : OpV P n l own ro (.binOp .eql t x y t') ty (.bool b) := by
  intro A w o ha _ ho _
  simp [execOp, ho, ha.eval hx, ha.eval hy, run_eqGuard_agg w .eql t x y xs ys hm, run_eql_struct, he]
theorem v_neA (hm : P.eqGuardType P.depth t = false) (hx : ev l x = some (.agg xs)) (hy : ev l y = some (.agg ys)) (he : ∀ w, (Op.equalIn 10000 t (.agg xs) (.agg ys)).run P w = .ok b w) : OpV P n l own ro (.binOp .neq t x y t') ty (.bool (!b)) := by
  intro A w o ha _ ho _
  simp [execOp, ho, ha.eval hx, ha.eval hy, run_eqGuard_agg w .neq t x y xs ys hm, run_neq_struct, he]
end
end Go.PK
