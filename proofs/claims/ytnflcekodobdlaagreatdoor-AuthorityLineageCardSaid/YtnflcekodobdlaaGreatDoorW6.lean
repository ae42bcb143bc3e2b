/- Of the proofs of YtnflcekodobdlaaGreatDoor: Bh Bi Bj Bk Bl Bm Bn Bo Bp Bq Br Ca Cb Cc, put together. -/
import Derived.Test.YtnflcekodobdlaaGreatDoorW5
import Derived.Test.YtnflcekodobdlaaGreatDoorW2
import Derived.Test.YtnflcekodobdlaaGreatDoorW3
import Derived.RangeFuncBound
import Derived.Test.YtnflcekodobdlaaGreatDoorW1
import Derived.Test.YtnflcekodobdlaaGreatDoorW4
set_option linter.unusedVariables false
set_option linter.unusedSimpArgs false
set_option maxRecDepth 100000

namespace Go.Proofs.YtnflcekodobdlaaGreatDoor
open Go.RowKit Go.PK
theorem min3_lt (a b c : Int) : min (min a b) c < 1 ↔ a < 1 ∨ b < 1 ∨ c < 1 := by
 rw [Int.min_def, Int.min_def]
 split <;> split <;> omega
theorem k_right (x : FD) (w : World) (hs : x.txt.size ≤ 4000000) (hL : LD w) :
  Calls Tryz.prog 39 #[Value.agg x.cells.toArray] w fun e w' => e = .returned (.bool (decide (rightF x))) ∧ Later w w' := by
 refine enter (vs := [Value.agg x.cells.toArray]) Tryz.func39 rfl Tryz.ntmps39 rfl ?_
 refine Zs (Zr ?_)
 refine x_box rfl rfl rfl rfl ?_
 intro p1
 refine Xa ?_
 refine Ze (Zt (Zs (Zs (Zr ?_))))
 refine Xf 0 rfl u28 rfl sz3 ?_
 refine Xl rfl u3 rfl (at_ownL (vs := x.cells) (.head _) rfl) ?_
 refine Xf 1 rfl u28 rfl sz3 ?_
 refine Xl rfl u3 rfl (at_ownL (vs := x.cells) (.head _) rfl) ?_
 refine Xf 3 rfl u28 rfl sz3 ?_
 refine Xl rfl u3 rfl (at_ownL (vs := x.cells) (.head _) rfl) ?_
 refine Xv rfl (v_min3 rfl rfl rfl) ?_
 refine Xb rfl (v_lss rfl rfl) fun b11 hb11 => ?_
 refine Ze (Zt ?_)
 refine w_cond rfl (fun hc11 => ?_) fun hc11 => ?_
 ·simp only [hb11, Qz, ne_eq] at hc11
  refine Zs (Zr ?_)
  refine Xa ?_
  refine Ze (Zt (w_ret (t_ret ?_)))
  refine ret1 rfl rfl (fun w' hm => ⟨?_, hm.base (by simp)⟩)
  rw [min3_lt] at hc11
  refine congrArg (fun b => Ending.returned (Value.bool b)) ?_
  have hwl : wordsP x.txt ≠ [] ↔ 0 < (wordsP x.txt).length := List.length_pos_iff.symm
  first | rw [hb37, hb36, hb33, Bool.eq_iff_iff] | rw [hb28, Bool.eq_iff_iff] | rw [hb23, Bool.eq_iff_iff] | rw [Bool.eq_iff_iff]
  simp only [Bool.and_eq_true, decide_eq_true_eq, Bool.false_eq_true]
  unfold rightF
  rw [hwl]
  first | omega | (rw [false_iff]; omega)
 simp only [hb11, Qz, ne_eq] at hc11
 refine w_skip (Zt (Zs (Zr ?_)))
 refine Xf 5 rfl u28 rfl sz9 ?_
 refine Xl rfl u9 rfl (at_ownL (vs := x.cells) (.head _) rfl) ?_
 refine x_own (τ := RowS) (fun r => rowV r (wordsP x.txt).length) (fun r => rowOK 1 r (wordsP x.txt).length ((wordsP x.txt).map Value.string)) (fun r => rowO 9 r ++ [(Bk p1 x.cells 28)]) rfl rfl rfl Tryz.func45 Zk rfl (fun w1 hw1 => (k_Words x.txt w1 hs (hL.later (hw1.base (by simp)))).mono fun e w2 ⟨r, h1, h2, h3⟩ => ⟨r, h1, h3.base (by simp), h2, hw1.join2 h3⟩) fun r hr => ?_
 refine Xv (v := Vi ((wordsP x.txt).length : Nat)) rfl (v_len_slice u38 rfl) ?_
 refine Xa ?_
 refine Ze (Zt (Zs (Zs (Zr ?_))))
 refine Xf 2 rfl u28 rfl sz3 ?_
 refine Xl rfl u3 rfl (at_ownL (vs := x.cells) (List.mem_append_right _ (.head _)) rfl) ?_
 refine Ze (Zt (w_block (Zs (Zs (Zr ?_)))))
 refine Xb rfl (v_eql rfl rfl) fun b19 hb19 => ?_
 refine Xa ?_
 refine Ze (Zt ?_)
 refine w_cond rfl (fun hc18 => ?_) fun hc18 => ?_
 ·simp only [hb19, Qz, ne_eq] at hc18
  refine w_skip (Zt ?_)
  refine w_cond rfl (fun hc18 => ?_) fun hc18 => ?_
  ·simp only [hb19, Qz, ne_eq] at hc18
   refine Zs (Zr ?_)
   refine Xm ?_
   refine Xb rfl (v_gtr rfl rfl) fun b23 hb23 => ?_
   refine Xa ?_
   refine Ze (Zt (w_ret (b_ret (t_ret ?_))))
   refine ret1 rfl rfl (fun w' hm => ⟨?_, hm.base (by simp)⟩)
   rw [min3_lt] at hc11
   refine congrArg (fun b => Ending.returned (Value.bool b)) ?_
   have hwl : wordsP x.txt ≠ [] ↔ 0 < (wordsP x.txt).length := List.length_pos_iff.symm
   first | rw [hb37, hb36, hb33, Bool.eq_iff_iff] | rw [hb28, Bool.eq_iff_iff] | rw [hb23, Bool.eq_iff_iff] | rw [Bool.eq_iff_iff]
   simp only [Bool.and_eq_true, decide_eq_true_eq, Bool.false_eq_true]
   unfold rightF
   rw [hwl]
   first | omega | (rw [false_iff]; omega)
  simp only [hb19, Qz, ne_eq] at hc18
  refine Zs (Zr ?_)
  refine Xb rfl (v_eql rfl rfl) fun b25 hb25 => ?_
  refine Xa ?_
  refine Ze (Zt ?_)
  refine w_cond rfl (fun hc24 => ?_) fun hc24 => ?_
  ·simp only [hb25, Qz, ne_eq] at hc24
   refine Zs (Zr ?_)
   refine Xf 4 rfl u28 rfl sz3 ?_
   refine Xl rfl u3 rfl (at_ownL (vs := x.cells) (List.mem_append_right _ (.head _)) rfl) ?_
   refine Xb rfl (v_gtr rfl rfl) fun b28 hb28 => ?_
   refine Xa ?_
   refine Ze (Zt (w_ret (b_ret (t_ret ?_))))
   refine ret1 rfl rfl (fun w' hm => ⟨?_, hm.base (by simp)⟩)
   rw [min3_lt] at hc11
   refine congrArg (fun b => Ending.returned (Value.bool b)) ?_
   have hwl : wordsP x.txt ≠ [] ↔ 0 < (wordsP x.txt).length := List.length_pos_iff.symm
   first | rw [hb37, hb36, hb33, Bool.eq_iff_iff] | rw [hb28, Bool.eq_iff_iff] | rw [hb23, Bool.eq_iff_iff] | rw [Bool.eq_iff_iff]
   simp only [Bool.and_eq_true, decide_eq_true_eq, Bool.false_eq_true]
   unfold rightF
   rw [hwl]
   first | omega | (rw [false_iff]; omega)
  simp only [hb25, Qz, ne_eq] at hc24
  refine Zs (Zr ?_)
  refine Xb rfl (v_eql rfl rfl) fun b30 hb30 => ?_
  refine Xa ?_
  refine Ze (Zt ?_)
  refine w_cond rfl (fun hc29 => ?_) fun hc29 => ?_
  ·simp only [hb30, Qz, ne_eq] at hc29
   refine Zs (Zr ?_)
   refine Xf 4 rfl u28 rfl sz3 ?_
   refine Xl rfl u3 rfl (at_ownL (vs := x.cells) (List.mem_append_right _ (.head _)) rfl) ?_
   refine Xb rfl (v_gtr rfl rfl) fun b33 hb33 => ?_
   refine Xm ?_
   refine Xg ?_
   refine Xj rfl rfl rfl (fun hg0 => by subst hg0; (try simp only [Qy]); exact v_eql rfl rfl) fun b36 hb36 => ?_
   refine Xb rfl (v_and rfl rfl) fun b37 hb37 => ?_
   refine Xa ?_
   refine Ze (Zt (w_ret (b_ret (t_ret ?_))))
   refine ret1 rfl rfl (fun w' hm => ⟨?_, hm.base (by simp)⟩)
   rw [min3_lt] at hc11
   refine congrArg (fun b => Ending.returned (Value.bool b)) ?_
   have hwl : wordsP x.txt ≠ [] ↔ 0 < (wordsP x.txt).length := List.length_pos_iff.symm
   first | rw [hb37, hb36, hb33, Bool.eq_iff_iff] | rw [hb28, Bool.eq_iff_iff] | rw [hb23, Bool.eq_iff_iff] | rw [Bool.eq_iff_iff]
   simp only [Bool.and_eq_true, decide_eq_true_eq, Bool.false_eq_true]
   unfold rightF
   rw [hwl]
   first | omega | (rw [false_iff]; omega)
  simp only [hb30, Qz, ne_eq] at hc29
  refine w_skip (b_norm (Zt (Zs (Zr ?_))))
  refine Xa ?_
  refine Ze (Zt (w_ret ?_))
  refine ret1 rfl rfl (fun w' hm => ⟨?_, hm.base (by simp)⟩)
  rw [min3_lt] at hc11
  refine congrArg (fun b => Ending.returned (Value.bool b)) ?_
  have hwl : wordsP x.txt ≠ [] ↔ 0 < (wordsP x.txt).length := List.length_pos_iff.symm
  first | rw [hb37, hb36, hb33, Bool.eq_iff_iff] | rw [hb28, Bool.eq_iff_iff] | rw [hb23, Bool.eq_iff_iff] | rw [Bool.eq_iff_iff]
  simp only [Bool.and_eq_true, decide_eq_true_eq, Bool.false_eq_true]
  unfold rightF
  rw [hwl]
  first | omega | (rw [false_iff]; omega)
 simp only [hb19, Qz, ne_eq] at hc18
 refine Zs (Zr ?_)
 refine Xb rfl (v_eql rfl rfl) fun b20 hb20 => ?_
 refine Xa ?_
 refine Ze (Zt ?_)
 refine w_cond rfl (fun hc18 => ?_) fun hc18 => ?_
 ·simp only [hb20, Qz, ne_eq] at hc18
  refine w_skip (Zt ?_)
  refine w_cond rfl (fun hc18 => ?_) fun hc18 => ?_
  ·simp only [hb20, Qz, ne_eq] at hc18
   refine Zs (Zr ?_)
   refine Xm ?_
   refine Xb rfl (v_gtr rfl rfl) fun b23 hb23 => ?_
   refine Xa ?_
   refine Ze (Zt (w_ret (b_ret (t_ret ?_))))
   refine ret1 rfl rfl (fun w' hm => ⟨?_, hm.base (by simp)⟩)
   rw [min3_lt] at hc11
   refine congrArg (fun b => Ending.returned (Value.bool b)) ?_
   have hwl : wordsP x.txt ≠ [] ↔ 0 < (wordsP x.txt).length := List.length_pos_iff.symm
   first | rw [hb37, hb36, hb33, Bool.eq_iff_iff] | rw [hb28, Bool.eq_iff_iff] | rw [hb23, Bool.eq_iff_iff] | rw [Bool.eq_iff_iff]
   simp only [Bool.and_eq_true, decide_eq_true_eq, Bool.false_eq_true]
   unfold rightF
   rw [hwl]
   first | omega | (rw [false_iff]; omega)
  simp only [hb20, Qz, ne_eq] at hc18
  refine Zs (Zr ?_)
  refine Xb rfl (v_eql rfl rfl) fun b25 hb25 => ?_
  refine Xa ?_
  refine Ze (Zt ?_)
  refine w_cond rfl (fun hc24 => ?_) fun hc24 => ?_
  ·simp only [hb25, Qz, ne_eq] at hc24
   refine Zs (Zr ?_)
   refine Xf 4 rfl u28 rfl sz3 ?_
   refine Xl rfl u3 rfl (at_ownL (vs := x.cells) (List.mem_append_right _ (.head _)) rfl) ?_
   refine Xb rfl (v_gtr rfl rfl) fun b28 hb28 => ?_
   refine Xa ?_
   refine Ze (Zt (w_ret (b_ret (t_ret ?_))))
   refine ret1 rfl rfl (fun w' hm => ⟨?_, hm.base (by simp)⟩)
   rw [min3_lt] at hc11
   refine congrArg (fun b => Ending.returned (Value.bool b)) ?_
   have hwl : wordsP x.txt ≠ [] ↔ 0 < (wordsP x.txt).length := List.length_pos_iff.symm
   first | rw [hb37, hb36, hb33, Bool.eq_iff_iff] | rw [hb28, Bool.eq_iff_iff] | rw [hb23, Bool.eq_iff_iff] | rw [Bool.eq_iff_iff]
   simp only [Bool.and_eq_true, decide_eq_true_eq, Bool.false_eq_true]
   unfold rightF
   rw [hwl]
   first | omega | (rw [false_iff]; omega)
  simp only [hb25, Qz, ne_eq] at hc24
  refine Zs (Zr ?_)
  refine Xb rfl (v_eql rfl rfl) fun b30 hb30 => ?_
  refine Xa ?_
  refine Ze (Zt ?_)
  refine w_cond rfl (fun hc29 => ?_) fun hc29 => ?_
  ·simp only [hb30, Qz, ne_eq] at hc29
   refine Zs (Zr ?_)
   refine Xf 4 rfl u28 rfl sz3 ?_
   refine Xl rfl u3 rfl (at_ownL (vs := x.cells) (List.mem_append_right _ (.head _)) rfl) ?_
   refine Xb rfl (v_gtr rfl rfl) fun b33 hb33 => ?_
   refine Xm ?_
   refine Xg ?_
   refine Xj rfl rfl rfl (fun hg0 => by subst hg0; (try simp only [Qy]); exact v_eql rfl rfl) fun b36 hb36 => ?_
   refine Xb rfl (v_and rfl rfl) fun b37 hb37 => ?_
   refine Xa ?_
   refine Ze (Zt (w_ret (b_ret (t_ret ?_))))
   refine ret1 rfl rfl (fun w' hm => ⟨?_, hm.base (by simp)⟩)
   rw [min3_lt] at hc11
   refine congrArg (fun b => Ending.returned (Value.bool b)) ?_
   have hwl : wordsP x.txt ≠ [] ↔ 0 < (wordsP x.txt).length := List.length_pos_iff.symm
   first | rw [hb37, hb36, hb33, Bool.eq_iff_iff] | rw [hb28, Bool.eq_iff_iff] | rw [hb23, Bool.eq_iff_iff] | rw [Bool.eq_iff_iff]
   simp only [Bool.and_eq_true, decide_eq_true_eq, Bool.false_eq_true]
   unfold rightF
   rw [hwl]
   first | omega | (rw [false_iff]; omega)
  simp only [hb30, Qz, ne_eq] at hc29
  refine w_skip (b_norm (Zt (Zs (Zr ?_))))
  refine Xa ?_
  refine Ze (Zt (w_ret ?_))
  refine ret1 rfl rfl (fun w' hm => ⟨?_, hm.base (by simp)⟩)
  rw [min3_lt] at hc11
  refine congrArg (fun b => Ending.returned (Value.bool b)) ?_
  have hwl : wordsP x.txt ≠ [] ↔ 0 < (wordsP x.txt).length := List.length_pos_iff.symm
  first | rw [hb37, hb36, hb33, Bool.eq_iff_iff] | rw [hb28, Bool.eq_iff_iff] | rw [hb23, Bool.eq_iff_iff] | rw [Bool.eq_iff_iff]
  simp only [Bool.and_eq_true, decide_eq_true_eq, Bool.false_eq_true]
  unfold rightF
  rw [hwl]
  first | omega | (rw [false_iff]; omega)
 simp only [hb20, Qz, ne_eq] at hc18
 refine Zr ?_
 refine Xb rfl (v_eql rfl rfl) fun b21 hb21 => ?_
 refine Xa ?_
 refine Ze (Zt ?_)
 refine w_cond rfl (fun hc18 => ?_) fun hc18 => ?_
 ·simp only [hb21, Qz, ne_eq] at hc18
  refine Zs (Zr ?_)
  refine Xm ?_
  refine Xb rfl (v_gtr rfl rfl) fun b23 hb23 => ?_
  refine Xa ?_
  refine Ze (Zt (w_ret (b_ret (t_ret ?_))))
  refine ret1 rfl rfl (fun w' hm => ⟨?_, hm.base (by simp)⟩)
  rw [min3_lt] at hc11
  refine congrArg (fun b => Ending.returned (Value.bool b)) ?_
  have hwl : wordsP x.txt ≠ [] ↔ 0 < (wordsP x.txt).length := List.length_pos_iff.symm
  first | rw [hb37, hb36, hb33, Bool.eq_iff_iff] | rw [hb28, Bool.eq_iff_iff] | rw [hb23, Bool.eq_iff_iff] | rw [Bool.eq_iff_iff]
  simp only [Bool.and_eq_true, decide_eq_true_eq, Bool.false_eq_true]
  unfold rightF
  rw [hwl]
  first | omega | (rw [false_iff]; omega)
 simp only [hb21, Qz, ne_eq] at hc18
 refine Zs (Zr ?_)
 refine Xb rfl (v_eql rfl rfl) fun b25 hb25 => ?_
 refine Xa ?_
 refine Ze (Zt ?_)
 refine w_cond rfl (fun hc24 => ?_) fun hc24 => ?_
 ·simp only [hb25, Qz, ne_eq] at hc24
  refine Zs (Zr ?_)
  refine Xf 4 rfl u28 rfl sz3 ?_
  refine Xl rfl u3 rfl (at_ownL (vs := x.cells) (List.mem_append_right _ (.head _)) rfl) ?_
  refine Xb rfl (v_gtr rfl rfl) fun b28 hb28 => ?_
  refine Xa ?_
  refine Ze (Zt (w_ret (b_ret (t_ret ?_))))
  refine ret1 rfl rfl (fun w' hm => ⟨?_, hm.base (by simp)⟩)
  rw [min3_lt] at hc11
  refine congrArg (fun b => Ending.returned (Value.bool b)) ?_
  have hwl : wordsP x.txt ≠ [] ↔ 0 < (wordsP x.txt).length := List.length_pos_iff.symm
  first | rw [hb37, hb36, hb33, Bool.eq_iff_iff] | rw [hb28, Bool.eq_iff_iff] | rw [hb23, Bool.eq_iff_iff] | rw [Bool.eq_iff_iff]
  simp only [Bool.and_eq_true, decide_eq_true_eq, Bool.false_eq_true]
  unfold rightF
  rw [hwl]
  first | omega | (rw [false_iff]; omega)
 simp only [hb25, Qz, ne_eq] at hc24
 refine Zs (Zr ?_)
 refine Xb rfl (v_eql rfl rfl) fun b30 hb30 => ?_
 refine Xa ?_
 refine Ze (Zt ?_)
 refine w_cond rfl (fun hc29 => ?_) fun hc29 => ?_
 ·simp only [hb30, Qz, ne_eq] at hc29
  refine Zs (Zr ?_)
  refine Xf 4 rfl u28 rfl sz3 ?_
  refine Xl rfl u3 rfl (at_ownL (vs := x.cells) (List.mem_append_right _ (.head _)) rfl) ?_
  refine Xb rfl (v_gtr rfl rfl) fun b33 hb33 => ?_
  refine Xm ?_
  refine Xg ?_
  refine Xj rfl rfl rfl (fun hg0 => by subst hg0; (try simp only [Qy]); exact v_eql rfl rfl) fun b36 hb36 => ?_
  refine Xb rfl (v_and rfl rfl) fun b37 hb37 => ?_
  refine Xa ?_
  refine Ze (Zt (w_ret (b_ret (t_ret ?_))))
  refine ret1 rfl rfl (fun w' hm => ⟨?_, hm.base (by simp)⟩)
  rw [min3_lt] at hc11
  refine congrArg (fun b => Ending.returned (Value.bool b)) ?_
  have hwl : wordsP x.txt ≠ [] ↔ 0 < (wordsP x.txt).length := List.length_pos_iff.symm
  first | rw [hb37, hb36, hb33, Bool.eq_iff_iff] | rw [hb28, Bool.eq_iff_iff] | rw [hb23, Bool.eq_iff_iff] | rw [Bool.eq_iff_iff]
  simp only [Bool.and_eq_true, decide_eq_true_eq, Bool.false_eq_true]
  unfold rightF
  rw [hwl]
  first | omega | (rw [false_iff]; omega)
 simp only [hb30, Qz, ne_eq] at hc29
 refine w_skip (b_norm (Zt (Zs (Zr ?_))))
 refine Xa ?_
 refine Ze (Zt (w_ret ?_))
 refine ret1 rfl rfl (fun w' hm => ⟨?_, hm.base (by simp)⟩)
 rw [min3_lt] at hc11
 refine congrArg (fun b => Ending.returned (Value.bool b)) ?_
 have hwl : wordsP x.txt ≠ [] ↔ 0 < (wordsP x.txt).length := List.length_pos_iff.symm
 first | rw [hb37, hb36, hb33, Bool.eq_iff_iff] | rw [hb28, Bool.eq_iff_iff] | rw [hb23, Bool.eq_iff_iff] | rw [Bool.eq_iff_iff]
 simp only [Bool.and_eq_true, decide_eq_true_eq, Bool.false_eq_true]
 unfold rightF
 rw [hwl]
 first | omega | (rw [false_iff]; omega)
open Go.RowKit Go.PK
structure FM8 where
  pf : Nat
  F : RowS
  now : Option SM
def nowV (o : Option SM) : Value := match o with | none => .pointer none | some y => Pt y.ps
def nowO (o : Option SM) (n : Nat) : List (Nat × Obj) := match o with | none => [] | some y => SO y n
def fmC (x : FM8) (n : Nat) : List Value := [rowV x.F n, nowV x.now]
noncomputable def FO (x : FM8) (fs : List FD) : List (Nat × Obj) := (Bk x.pf (fmC x fs.length) 78) :: (rowO 28 x.F ++ nowO x.now (stF fs).ref.length)
def nmM (hs : List HG) (p : ByteArray → HG → Bool) : Value → Option Value := fun v => match v with | .string t => if leastB (p t) hs = 0 then none else some (Vi (leastB (p t) hs)) | _ => none
structure NOK (x : SM) (s : SG8) : Prop where
  al : ∀ y, x.N = some y → x.al = .map (some y.mA)
  nm : ∀ y, x.N = some y → MapC Tryz.prog 9 y.esN y.ckN (nmM s.hs namedB)
  als : ∀ y, x.N = some y → MapC Tryz.prog 9 y.esA y.ckA (nmM s.hs alsoB)
def inFD (q : FD) : Prop := in64 q.ag ∧ in64 q.num ∧ in64 q.kind ∧ in64 q.hd ∧ in64 q.to ∧ q.txt.size ≤ 4000000
structure FOK (x : FM8) (fs : List FD) : Prop where
  row : rowOK 6 x.F fs.length (fdsC fs)
  ok : FsOK fs
  sz : ∀ q ∈ fs, inFD q
  now : ∀ y, x.now = some y → SOK y (stF fs) ∧ NOK y (stF fs)
theorem nok_none {x : SM} {s : SG8} (h : x.N = none) : NOK x s := ⟨fun y hy => (by rw [h] at hy; cases hy), fun y hy => (by rw [h] at hy; cases hy), fun y hy => (by rw [h] at hy; cases hy)⟩
theorem SOK.zero (p13 p11 : Nat) : SOK ⟨p13, p11, #[], 0, [], none, none, .map none⟩ (stF []) := ⟨rfl, fun h hh => (by cases hh), by
 have e : hmM [] = fun _ => none := by funext v; unfold hmM; split <;> rfl
 rw [e]; exact MapC.empty, rowOK_nil, fun h hh => (by cases hh)⟩
theorem FOK.new (pf : Nat) : FOK ⟨pf, none, none⟩ [] := ⟨rowOK_nil, FsOK.nil, fun q hq => (by cases hq), fun y hy => (by cases hy)⟩
theorem fs_bnd {fs : List FD} (h : FsOK fs) (k : Nat) : bndS 10000 (stF (fs.take k)) := by
 have h1 := bnd_stF (fs.take k)
 have h2 := h.len
 have h3 : (fs.take k).length ≤ 10000 := by rw [List.length_take]; omega
 exact ⟨by have := h1.hs; omega, fun g hg => by have := h1.oth g hg; omega, by have := h1.ref; omega⟩
theorem fs_acy {fs : List FD} (h : FsOK fs) (k : Nat) : Acy (stF (fs.take k)).hs := stF_acy fun q hq => h.rt q (List.mem_of_mem_take hq)
theorem take_st {fs : List FD} {k : Nat} (h : k < fs.length) : stF (fs.take (k + 1)) = applyS (stF (fs.take k)) fs[k] := by
 rw [List.take_succ_eq_append_getElem h, stF_snoc]
theorem rt_kind {x : FD} (h : rightF x) : 1 ≤ x.kind ∧ x.kind ≤ 5 := by unfold rightF at h; omega
theorem k_New (w : World) :
  Calls Tryz.prog 16 #[] w fun e w' => ∃ x : FM8, e = .returned (Pt x.pf) ∧ FOK x [] ∧ x.now = none ∧ Mem w' (FO x []) [(w, fun _ => True)] := by
 refine enter (vs := []) Tryz.func16 rfl Tryz.ntmps16 rfl ?_
 refine Zs (Zr ?_)
 refine Xa ?_
 refine Ze (Zt (Zs (Zr ?_)))
 refine Xv rfl (v_buildL (places := [(0, 1), (1, 1)]) u78 zr78 Zk rfl rfl) ?_
 refine x_box rfl rfl rfl rfl ?_
 intro p2
 refine Xa ?_
 refine Ze (Zt (w_ret ?_))
 exact ret1 rfl rfl (fun w' hm => ⟨⟨p2, none, none⟩, rfl, FOK.new p2, rfl, hm⟩)
set_option maxHeartbeats 1000000 in
theorem k_stateN {pf : Nat} {F : RowS} {fs : List FD} {L : List (Nat × Obj)} {ro : List Snap} {w w0 : World} (hrow : rowOK 6 F fs.length (fdsC fs)) (hok : FsOK fs) (hsz : ∀ q ∈ fs, inFD q) (hro : (w0, fun _ => True) ∈ ro) (hL : LD w0) (hm : Mem w ((Bk pf [rowV F fs.length, Value.pointer none] 78) :: (rowO 28 F ++ L)) ro) :
  Calls Tryz.prog 42 #[Pt pf] w fun e w' => ∃ y : SM, e = .returned (Pt y.ps) ∧ (SOK y (stF fs) ∧ NOK y (stF fs)) ∧ Mem w' ((Bk pf [rowV F fs.length, Pt y.ps] 78) :: (SO y (stF fs).ref.length ++ (rowO 28 F ++ L))) ro := by
 refine enter_in hm (vs := [Pt pf]) Tryz.func42 rfl Tryz.ntmps42 rfl ?_
 refine Zs (Zr ?_)
 refine Xa ?_
 refine Ze (Zt (Zs (Zs (Zr ?_))))
 refine Xm ?_
 refine Xn ?_
 refine Xf 1 rfl u78 rfl sz76 ?_
 refine Xl rfl u76 rfl (at_ownL (vs := [rowV F fs.length, .pointer none]) (.head _) rfl) ?_
 refine Xb rfl (v_pnil (o := none) u76 rfl rfl) fun b9 hb9 => ?_
 refine Ze (Zt ?_)
 refine w_cond rfl (fun hc9 => ?_) fun hc9 => ?_
 ·skip
  refine Zs (Zr ?_)
  refine Xm ?_
  refine x_makeMap rfl rfl rfl ?_
  intro p11
  refine Xv rfl (v_buildL (places := [(0, 1), (1, 1), (2, 1), (3, 1)]) u91 zr91 Zk rfl rfl) ?_
  refine x_box rfl rfl rfl rfl ?_
  intro p13
  refine Xn ?_
  refine Xf 1 rfl u78 rfl sz76 ?_
  refine x_store (cs := [rowV F fs.length, .pointer none]) (off := 1) (e := 78) (l2 := rowO 28 F ++ L) [(p13, _), (p11, _)] rfl rfl rfl rfl sz76 rfl (by show 1 + 1 ≤ 2; decide) ?_
  refine Ze (Zt (Zs (Zr ?_)))
  refine Xm ?_
  refine Xn ?_
  refine Xf 0 rfl u78 rfl sz24 ?_
  refine Xl rfl u24 rfl (at_ownL (vs := [rowV F fs.length, Pt p13]) (.tail _ (.tail _ (.head _))) rfl) ?_
  refine Xv (v := Vi (fs.length : Nat)) rfl (v_len_slice u24 rfl) ?_
  refine Xm ?_
  refine Ze (Zt (w_block ?_))
  refine w_loop (σ := Nat × SM) (fun z => z.1 ≤ fs.length ∧ SOK z.2 (stF (fs.take z.1)) ∧ z.2.N = none) (fun z => [(0, Pt pf), (19, rowV F fs.length), (20, Vi (fs.length : Nat)), (21, Vi (z.1 : Nat))]) (fun z => (Bk pf [rowV F fs.length, Pt z.2.ps] 78) :: (SO z.2 (stF (fs.take z.1)).ref.length ++ (rowO 28 F ++ L))) (fun z => ro) (fun z => fs.length - z.1) ((0, ⟨p13, p11, #[], 0, [], none, none, .map none⟩)) (⟨Nat.zero_le _, SOK.zero p13 p11, rfl⟩) (l_start Zu (fun w1 h => (h.perm (List.perm_middle (l₁ := [_, _]))).to rfl)) ?_
  rintro ⟨k, y⟩ ⟨hk, hy, hyN⟩
  refine w_state ([(0, Pt pf), (19, rowV F fs.length), (20, Vi (fs.length : Nat)), (21, Vi (k : Nat))]) ((Bk pf [rowV F fs.length, Pt y.ps] 78) :: (SO y (stF (fs.take k)).ref.length ++ (rowO 28 F ++ L))) (ro) ?_
  dsimp only at hk hy hyN
  have hle := hok.len
  refine Zs (Zr ?_)
  refine Xb rfl (v_lss rfl rfl) fun b22 hb22 => ?_
  refine Ze (Zt (Zs ?_))
  refine w_cond rfl (fun hc22 => ?_) fun hc22 => ?_
  ·simp only [hb22, Qz, ne_eq] at hc22
   have hkl : k < fs.length := by omega
   obtain ⟨g, cs, c, hRg, hcap, hcl⟩ := fd_cell hrow hkl
   refine w_skip (Zt (Zs (w_block (Zs (Zr ?_)))))
   refine Xv rfl (v_indexAddr u24 sz28 (congrArg (fun R => some (rowV R fs.length)) hRg) rfl (hkl) rfl) ?_
   refine Xv rfl (v_loadN (vs := fs[k].cells) u28 rfl sz28 rfl (fun i hi => at_ownL (vs := cs) (.tail _ (List.mem_append_right _ (List.mem_append_left _ (by rw [hRg]; exact .head _)))) (by rw [Nat.zero_add]; exact (hcl i hi).trans (List.getElem?_eq_getElem hi)))) ?_
   refine x_alloc rfl rfl rfl zr28 ?_
   intro p4
   refine x_store0 [] rfl rfl rfl rfl sz28 rfl rfl ?_
   refine Ze (Zt ?_)
   refine rg_draw 5 [(true, 0), (true, 1), (true, 2), (true, 3), (true, 4)] Zk Zk ?_
   refine Xm ?_
   refine Xn ?_
   refine Xf 1 rfl u78 rfl sz76 ?_
   refine Xl rfl u76 rfl (at_ownL (vs := [rowV F fs.length, Pt y.ps]) (.tail _ (.head _)) rfl) ?_
   refine Xv (v := Value.agg fs[k].cells.toArray) rfl (v_load_blk u28 rfl rfl (.head _) (by exact sz28)) ?_
   refine x_turn (τ := SM) (v := .tuple #[]) (fst := #[]) (cap := #[]) (fun y' => SOK y' (stF (fs.take (k + 1))) ∧ y'.ps = y.ps ∧ y'.N = none) (fun y' => SO y' (stF (fs.take (k + 1))).ref.length ++ ((p4, Obj.cells fs[k].cells.toArray 28) :: (Bk pf [rowV F fs.length, Pt y.ps] 78) :: (rowO 28 F ++ L))) rfl rfl rfl Tryz.func43 Zk rfl (fun w1 hw1 => by
    have hq := hsz fs[k] (List.getElem_mem hkl)
    have hr := hok.rt fs[k] (List.getElem_mem hkl)
    have h := k_apply (f := fs[k]) (L := (p4, Obj.cells fs[k].cells.toArray 28) :: (Bk pf [rowV F fs.length, Pt y.ps] 78) :: (rowO 28 F ++ L)) hy (fs_acy hok k) (fs_bnd hok k) ⟨hq.2.2.2.1, hq.2.2.2.2.1⟩ hq.2.2.2.2.2 (hw1.perm perm2) hro hL (rt_kind hr)
    rw [← take_st hkl] at h
    simpa using h) ?_
   rintro y' ⟨hy', hp', hN'⟩
   refine Ze (b_norm (Zt (Zr ?_)))
   refine Xv rfl (v_addi rfl rfl rfl Zo) ?_
   refine Xm ?_
   refine Ze ?_
   exact l_norm (k + 1, y') ⟨hkl, hy', hN'⟩ (by simp only; omega) Zu (fun w1 h => by
    dsimp only
    rw [hp']
    exact (h.less ((List.Sublist.refl _).append (List.sublist_cons_self _ _)) (fun _ h => h)).perm List.perm_middle)
  simp only [hb22, Qz, ne_eq] at hc22
  obtain rfl : k = fs.length := by omega
  rw [List.take_of_length_le (Nat.le_refl _)] at hy
  refine w_exit ?_
  refine t_exit ?_
  refine t_exit ?_
  refine b_hit ?_
  refine Zt (Zs (Zr ?_))
  refine Xm ?_
  refine Xn ?_
  refine Xf 1 rfl u78 rfl sz76 ?_
  refine Xl rfl u76 rfl (at_ownL (vs := [rowV F fs.length, Pt y.ps]) (.head _) rfl) ?_
  refine Xa ?_
  refine Ze (Zt (w_ret ?_))
  exact ret1 rfl rfl (fun w' hm' => ⟨y, rfl, ⟨hy, nok_none hyN⟩, by rw [List.take_of_length_le (Nat.le_refl _)] at hm'; exact hm'⟩)
 rw [hb9] at hc9; cases hc9
theorem k_stateS {pf : Nat} {F : RowS} {fs : List FD} {L : List (Nat × Obj)} {ro : List Snap} {w : World} {y : SM} (hy : SOK y (stF fs) ∧ NOK y (stF fs)) (hm : Mem w ((Bk pf [rowV F fs.length, Pt y.ps] 78) :: (SO y (stF fs).ref.length ++ (rowO 28 F ++ L))) ro) :
  Calls Tryz.prog 42 #[Pt pf] w fun e w' => ∃ y : SM, e = .returned (Pt y.ps) ∧ (SOK y (stF fs) ∧ NOK y (stF fs)) ∧ Mem w' ((Bk pf [rowV F fs.length, Pt y.ps] 78) :: (SO y (stF fs).ref.length ++ (rowO 28 F ++ L))) ro := by
 refine enter_in hm (vs := [Pt pf]) Tryz.func42 rfl Tryz.ntmps42 rfl ?_
 refine Zs (Zr ?_)
 refine Xa ?_
 refine Ze (Zt (Zs (Zs (Zr ?_))))
 refine Xm ?_
 refine Xn ?_
 refine Xf 1 rfl u78 rfl sz76 ?_
 refine Xl rfl u76 rfl (at_ownL (vs := [rowV F fs.length, Pt y.ps]) (.head _) rfl) ?_
 refine Xb rfl (v_pnil (o := some ⟨y.ps, 0, none⟩) u76 rfl rfl) fun b9 hb9 => ?_
 refine Ze (Zt ?_)
 refine w_cond rfl (fun hc9 => ?_) fun hc9 => ?_
 ·rw [hb9] at hc9; cases hc9
 skip
 refine w_skip (Zt (Zs (Zr ?_)))
 refine Xm ?_
 refine Xn ?_
 refine Xf 1 rfl u78 rfl sz76 ?_
 refine Xl rfl u76 rfl (at_ownL (vs := [rowV F fs.length, Pt y.ps]) (.head _) rfl) ?_
 refine Xa ?_
 refine Ze (Zt (w_ret ?_))
 exact ret1 rfl rfl (fun w' hm' => ⟨y, rfl, hy, hm'⟩)
theorem perm_swap3 {α : Type} (R S L : List α) : (R ++ (S ++ L)).Perm (S ++ (R ++ L)) := by
 rw [← List.append_assoc, ← List.append_assoc]
 exact List.perm_append_comm.append_right L
theorem FO_none {x : FM8} {fs : List FD} (h : x.now = none) (L : List (Nat × Obj)) : FO x fs ++ L = (Bk x.pf [rowV x.F fs.length, Value.pointer none] 78) :: (rowO 28 x.F ++ L) := by
 unfold FO fmC
 rw [h]
 simp only [nowO, nowV, List.append_nil, List.cons_append]
theorem FO_some {x : FM8} {fs : List FD} {y : SM} (h : x.now = some y) (L : List (Nat × Obj)) : (FO x fs ++ L).Perm ((Bk x.pf [rowV x.F fs.length, Pt y.ps] 78) :: (SO y (stF fs).ref.length ++ (rowO 28 x.F ++ L))) := by
 unfold FO fmC
 rw [h]
 simp only [nowO, nowV, List.cons_append, List.append_assoc]
 exact (perm_swap3 _ _ _).cons _
theorem k_state {x : FM8} {fs : List FD} {L : List (Nat × Obj)} {ro : List Snap} {w w0 : World} (hk : FOK x fs) (hro : (w0, fun _ => True) ∈ ro) (hL : LD w0) (hm : Mem w (FO x fs ++ L) ro) :
  Calls Tryz.prog 42 #[Pt x.pf] w fun e w' => ∃ y : SM, e = .returned (Pt y.ps) ∧ FOK { x with now := some y } fs ∧ Mem w' (FO { x with now := some y } fs ++ L) ro := by
 have fin : ∀ (e : Ending) (w' : World), (∃ y : SM, e = .returned (Pt y.ps) ∧ (SOK y (stF fs) ∧ NOK y (stF fs)) ∧ Mem w' ((Bk x.pf [rowV x.F fs.length, Pt y.ps] 78) :: (SO y (stF fs).ref.length ++ (rowO 28 x.F ++ L))) ro) → ∃ y : SM, e = .returned (Pt y.ps) ∧ FOK { x with now := some y } fs ∧ Mem w' (FO { x with now := some y } fs ++ L) ro := fun e w' ⟨y, h1, h2, h3⟩ =>
  ⟨y, h1, ⟨hk.row, hk.ok, hk.sz, fun y' hy' => by injection hy' with hy'; subst hy'; exact h2⟩, h3.perm (FO_some (x := { x with now := some y }) rfl L).symm⟩
 cases hn : x.now with
 | none => exact (k_stateN hk.row hk.ok hk.sz hro hL (hm.to (FO_none hn L))).mono fin
 | some y => exact (k_stateS (hk.now y hn) (hm.perm (FO_some hn L))).mono fin
open Go.RowKit Go.PK
theorem eqFD (w : World) (a c : FD) : (Op.equalIn 10000 28 (.agg a.cells.toArray) (.agg c.cells.toArray)).run Tryz.prog w = .ok (decide (a = c)) w := by
 have hf : (Tryz.prog.fieldsOf 28).toList = [⟨ "Agency", 3, 0, false, "", "", 0⟩, ⟨ "Number", 3, 1, false, "", "", 8⟩, ⟨ "Kind", 3, 2, false, "", "", 16⟩, ⟨ "Heading", 3, 3, false, "", "", 24⟩, ⟨ "To", 3, 4, false, "", "", 32⟩, ⟨ "Text", 9, 5, false, "", "", 40⟩] := by kernel_rfl
 rw [run_equalIn_struct w 9999 28 _ _ Zk Zk, hf]
 simp only [Op.eqFields, part, FD.cells]
 obtain ⟨r1, r2, r3, r4, r5, r6⟩ := a
 obtain ⟨s1, s2, s3, s4, s5, s6⟩ := c
 simp [run_isAgg u3, run_isAgg u9, aggT, run_equalIn_int w 9998 3 .i64 .i64 _ _ u3, run_equalIn_string w 9998 9 _ _ u9, toList_eq, FD.mk.injEq]
 by_cases h1 : r1 = s1 <;> by_cases h2 : r2 = s2 <;> by_cases h3 : r3 = s3 <;> by_cases h4 : r4 = s4 <;> by_cases h5 : r5 = s5 <;> by_cases h6 : r6 = s6 <;> simp [h1, h2, h3, h4, h5, h6]
theorem FO_app (x : FM8) (fs : List FD) (L : List (Nat × Obj)) : FO x fs ++ L = (Bk x.pf (fmC x fs.length) 78) :: (rowO 28 x.F ++ (nowO x.now (stF fs).ref.length ++ L)) := by
 unfold FO
 simp only [List.cons_append, List.append_assoc]
set_option maxHeartbeats 2000000 in
theorem k_TakeA {x : FM8} {fs : List FD} {f : FD} {L : List (Nat × Obj)} {ro : List Snap} {w w0 : World} (hk : FOK x fs) (hin : inFD f) (hro : (w0, fun _ => True) ∈ ro) (hL : LD w0) (hm : Mem w ((Bk x.pf (fmC x fs.length) 78) :: (rowO 28 x.F ++ (nowO x.now (stF fs).ref.length ++ L))) ro) :
  Calls Tryz.prog 17 #[Pt x.pf, Value.agg f.cells.toArray] w fun e w' => e = .returned (Vi (takeF fs f).1) ∧ ∃ x' : FM8, (FOK x' (takeF fs f).2 ∧ x'.pf = x.pf) ∧ Mem w' (FO x' (takeF fs f).2 ++ L) ro := by
 have hsz := hin.2.2.2.2.2
 refine enter_in hm (vs := [Pt x.pf, Value.agg f.cells.toArray]) Tryz.func17 rfl Tryz.ntmps17 rfl ?_
 refine Zs (Zr ?_)
 refine x_box rfl rfl rfl rfl ?_
 intro p3
 refine Xa ?_
 refine Ze (Zt (Zs (Zs (Zr ?_))))
 refine Xm ?_
 refine Xb rfl (v_pnil (o := some ⟨x.pf, 0, none⟩) u29 rfl rfl) fun b8 hb8 => ?_
 refine Xm ?_
 refine Xi rfl rfl rfl (fun hg0 => by subst hg0; (try simp only [Qy]); exact v_load_blk u28 rfl rfl (.head _) (by exact sz28)) ?_
 refine x_call_ifb [] rfl rfl rfl rfl rfl Tryz.func39 Zk (fun hg => by obtain ⟨hg0, _⟩ := hg; subst hg0; (try simp only [Qy]); refine ⟨_, rfl, ?_⟩; exact fun w1 hw1 => k_right f w1 hsz (hL.later (hw1.base hro))) fun b11 hb11 => ?_
 refine Xj rfl rfl rfl (fun hg0 => by subst hg0; (try simp only [Qy]); exact v_not rfl) fun b12 hb12 => ?_
 refine Xb rfl (v_or rfl rfl) fun b13 hb13 => ?_
 refine Ze (Zt ?_)
 refine w_cond rfl (fun hc13 => ?_) fun hc13 => ?_
 ·have hnr : ¬rightF f := by
   intro h
   rw [hb13, hb12, hb11, hb8, decide_eq_true h] at hc13
   cases hc13
  refine Zs (Zr ?_)
  refine Xa ?_
  refine Ze (Zt (w_ret (t_ret ?_)))
  rw [take_arg hnr]
  exact ret1 rfl rfl (fun w' hm' => ⟨rfl, x, ⟨hk, rfl⟩, (hm'.less (List.sublist_cons_self _ _) (fun _ h => h)).to (FO_app x fs L).symm⟩)
 simp only [hb13, hb12, hb11, hb8, Qz, ne_eq] at hc13
 have hrt : rightF f := hc13.2
 have hle := hk.ok.len
 refine w_skip (Zt (Zs ?_))
 refine rg_draw 11 [(true, 0), (true, 1), (true, 2), (true, 3), (true, 4), (true, 5), (true, 6), (true, 7), (true, 8), (true, 9), (true, 10)] Zk Zk ?_
 refine Xm ?_
 refine Xn ?_
 refine Xf 0 rfl u78 rfl sz24 ?_
 refine Xl rfl u24 rfl (at_ownL (vs := fmC x fs.length) (.tail _ (.head _)) rfl) ?_
 refine Xv rfl (v_load_blk u28 rfl rfl (.head _) (by exact sz28)) ?_
 refine x_callv rfl rfl rfl Tryz.func40 Zk rfl (fun w1 hw1 => k_BS w1 hk.row (fun q hq => hw1.own_at q (.tail _ (.tail _ (List.mem_append_left _ hq)))) hk.ok.srt (by have := hk.ok.len; omega)) ?_
 refine Xm ?_
 refine Xe ?_
 refine Xb rfl (v_extract rfl rfl) fun b22 hb22 => ?_
 refine Xa ?_
 refine Xa ?_
 refine Ze (Zt (Zs (w_block (Zs ?_))))
 refine rg_draw 13 [(true, 0), (true, 1), (true, 2), (true, 3), (true, 4), (true, 5), (true, 6), (true, 7), (true, 8), (true, 9), (true, 10), (true, 11), (true, 12)] Zk Zk ?_
 refine Xm ?_
 refine Xm ?_
 refine Xg ?_
 refine Xi rfl rfl rfl (fun hg0 => by subst hg0; (try simp only [Qy]); exact v_nilCheck rfl) ?_
 refine Xi rfl rfl rfl (fun hg0 => by subst hg0; (try simp only [Qy]); exact v_fieldAddr (off' := 0) u78 rfl sz24 (by decide) rfl rfl) ?_
 refine Xi rfl rfl rfl (fun hg0 => by subst hg0; (try simp only [Qy]); exact v_load u24 rfl rfl (at_ownL (vs := fmC x fs.length) (.tail _ (.head _)) rfl)) ?_
 refine Xg ?_
 refine x_if [] rfl rfl rfl rfl rfl (v := .pointer (some ⟨(match x.F with | some r => r.1 | none => 0), posF fs f * 6, none⟩)) (fun hg => by obtain ⟨hg0, _⟩ := hg; subst hg0; (try simp only [Qy]); have hpl : posF fs f < fs.length := (knw_at hk.ok.srt hb22.symm).1; obtain ⟨g9, cs9, c9, hR9, hcap9, hc9⟩ := fd_cell hk.row hpl; rw [hR9]; exact v_indexAddr (j := posF fs f) u24 sz28 rfl rfl hpl (Nat.zero_add _)) ?_
 refine x_if [] rfl rfl rfl rfl rfl (v := .agg (fs.getD (posF fs f) f).cells.toArray) (fun hg => by obtain ⟨hg0, _⟩ := hg; subst hg0; (try simp only [Qy]); have hpl : posF fs f < fs.length := (knw_at hk.ok.srt hb22.symm).1; obtain ⟨g, cs, c, hRg, hcap, hcl⟩ := fd_cell hk.row hpl; rw [show (fs.getD (posF fs f) f) = fs[posF fs f] from (by rw [List.getD_eq_getElem?_getD, List.getElem?_eq_getElem hpl]; rfl)]; rw [hRg]; exact v_loadN (vs := fs[posF fs f].cells) u28 rfl sz28 rfl (fun i hi => at_ownL (vs := cs) (.tail _ (.tail _ (List.mem_append_left _ (.head _)))) ((hcl i hi).trans (List.getElem?_eq_getElem hi)))) ?_
 refine x_if [] rfl rfl rfl rfl rfl (v := Value.agg f.cells.toArray) (fun hg => by obtain ⟨hg0, _⟩ := hg; subst hg0; (try simp only [Qy]); exact v_load_blk u28 rfl rfl (.head _) (by exact sz28)) ?_
 refine Xj rfl rfl rfl (fun hg0 => by subst hg0; (try simp only [Qy]); exact v_eqA Zk rfl rfl (fun w1 => eqFD w1 (fs.getD (posF fs f) f) f)) fun b34 hb34 => ?_
 refine Xb rfl (v_and rfl rfl) fun b35 hb35 => ?_
 refine Xa ?_
 refine Ze (Zt ?_)
 refine w_cond rfl (fun hc23 => ?_) fun hc23 => ?_
 ·have hkn : knwF fs f = true := by cases hq : knwF fs f with | true => rfl | false => (rw [hb35, hb22, hq] at hc23; cases hc23)
  have hmem : f ∈ fs := by
   obtain ⟨hpl, _⟩ := knw_at hk.ok.srt hkn
   rw [hb35, hb34, hb22, hkn] at hc23
   exact (twice_iff hk.ok.srt hkn).2 (by rw [List.getElem?_eq_getElem hpl]; simpa [List.getElem?_eq_getElem hpl] using hc23)
  refine Zs (Zr ?_)
  refine Xa ?_
  refine Ze (Zt (w_ret (b_ret (t_ret ?_))))
  rw [take_twice hrt hmem]
  exact ret1 rfl rfl (fun w' hm' => ⟨rfl, x, ⟨hk, rfl⟩, (hm'.less (List.sublist_cons_self _ _) (fun _ h => h)).to (FO_app x fs L).symm⟩)
 simp only [hb35, hb34, hb22, Qz, ne_eq] at hc23
 refine Zs (Zr ?_)
 refine Xm ?_
 refine Xa ?_
 refine Ze (Zt ?_)
 refine w_cond rfl (fun hc36 => ?_) fun hc36 => ?_
 ·have hkn : knwF fs f = true := by rw [← hb22]; exact hc36
  have hnm : f ∉ fs := fun h => by
   obtain ⟨hpl, _⟩ := knw_at hk.ok.srt hkn
   have h2 := (twice_iff hk.ok.srt hkn).1 h
   rw [List.getElem?_eq_getElem hpl] at h2
   injection h2 with h2
   rcases hc23 with h9 | h9
   ·rw [hkn] at h9; cases h9
   exact h9 (by rw [List.getD_eq_getElem?_getD, List.getElem?_eq_getElem hpl, h2]; rfl)
  refine Zs (Zr ?_)
  refine Xa ?_
  refine Ze (Zt (w_ret (b_ret (t_ret ?_))))
  rw [take_old hrt hnm hkn]
  exact ret1 rfl rfl (fun w' hm' => ⟨rfl, x, ⟨hk, rfl⟩, (hm'.less (List.sublist_cons_self _ _) (fun _ h => h)).to (FO_app x fs L).symm⟩)
 have hkn : knwF fs f = false := by rw [← hb22]; exact hc36
 refine Zs (Zr ?_)
 refine Xm ?_
 refine Xn ?_
 refine Xf 0 rfl u78 rfl sz24 ?_
 refine Xl rfl u24 rfl (at_ownL (vs := fmC x fs.length) (.tail _ (.head _)) rfl) ?_
 refine Xv (v := Vi (fs.length : Nat)) rfl (v_len_slice u24 rfl) ?_
 refine Xb rfl (v_geq rfl rfl) fun b44 hb44 => ?_
 refine Xa ?_
 refine Ze (Zt ?_)
 refine w_cond rfl (fun hc38 => ?_) fun hc38 => ?_
 ·simp only [hb44, Qz, ne_eq] at hc38
  refine Zs (Zr ?_)
  refine Xa ?_
  refine Ze (Zt (w_ret (b_ret (t_ret ?_))))
  rw [take_many hrt hkn (by omega)]
  exact ret1 rfl rfl (fun w' hm' => ⟨rfl, x, ⟨hk, rfl⟩, (hm'.less (List.sublist_cons_self _ _) (fun _ h => h)).to (FO_app x fs L).symm⟩)
 simp only [hb44, Qz, ne_eq] at hc38
 refine w_skip (b_norm (Zt (Zs (Zs (Zr ?_)))))
 refine Xm ?_
 refine Xm ?_
 refine Xn ?_
 refine Xf 0 rfl u78 rfl sz24 ?_
 refine Xl rfl u24 rfl (at_ownL (vs := fmC x fs.length) (.tail _ (.head _)) rfl) ?_
 refine Xv (v := Vi (fs.length : Nat)) rfl (v_len_slice u24 rfl) ?_
 refine Xb rfl (v_eql rfl rfl) fun b51 hb51 => ?_
 refine Ze (Zt ?_)
 refine w_cond rfl (fun hc51 => ?_) fun hc51 => ?_
 ·simp only [hb51, Qz, ne_eq] at hc51
  have hps : posF fs f = fs.length := by omega
  refine Zs ?_
  refine rg_inv ([(Bk p3 f.cells 28)]) 3 (.flt 0 (.flt 2 (.gr 1 .done .nil))) ((List.nil_sublist _).cons_cons _) Zk Zk ?_
  refine j_val rfl rfl (v_move rfl) ?_
  refine j_val rfl rfl (v_load_blk u28 rfl rfl (.head _) (by exact sz28)) ?_
  refine j_gr ?_ j_nil
  refine x_turnV (τ := SM) (fst := #[]) (cap := #[]) (fun y => Pt y.ps) (fun y => FOK { x with now := some y } fs) (fun y => (Bk p3 f.cells 28) :: (FO { x with now := some y } fs ++ L)) rfl rfl rfl Tryz.func42 Zk rfl (fun w1 hw1 => by
   have h := (k_state (L := (Bk p3 f.cells 28) :: L) hk hro hL ((hw1.to (congrArg (List.cons _) (FO_app x fs L).symm)).perm List.perm_middle.symm)).mono fun e w2 ⟨y, h1, h2, h3⟩ => (⟨y, h1, h2, h3.perm List.perm_middle⟩ : ∃ y : SM, e = Ending.returned (Pt y.ps) ∧ FOK { x with now := some y } fs ∧ Mem w2 ((Bk p3 f.cells 28) :: (FO { x with now := some y } fs ++ L)) ro)
   simpa using h) ?_
  intro y hky
  refine Ze ?_
  refine j_end ((List.nil_sublist _).cons_cons _) ?_
  refine j_done ?_
  refine x_mem (fun _ h => ((h.perm ((FO_some (x := { x with now := some y }) rfl L).cons _)).perm perm2)) ?_
  refine x_turn (τ := SM) (v := .tuple #[]) (fst := #[]) (cap := #[]) (fun y' => SOK y' (applyS (stF fs) f) ∧ y'.ps = y.ps ∧ y'.N = none) (fun y' => (Bk p3 f.cells 28) :: (Bk x.pf [rowV x.F fs.length, Pt y.ps] 78) :: (SO y' (applyS (stF fs) f).ref.length ++ (rowO 28 x.F ++ L))) rfl rfl rfl Tryz.func43 Zk rfl (fun w1 hw1 => by
   have ha := fs_acy hk.ok fs.length
   have hb := fs_bnd hk.ok fs.length
   rw [List.take_length] at ha hb
   have h := (k_apply (L := (Bk p3 f.cells 28) :: (Bk x.pf [rowV x.F fs.length, Pt y.ps] 78) :: (rowO 28 x.F ++ L)) (hky.now y rfl).1 ha hb ⟨hin.2.2.2.1, hin.2.2.2.2.1⟩ hsz hw1 hro hL (rt_kind hrt)).mono fun e w2 ⟨h1, y', h2, h3⟩ => (⟨h1, y', h2, h3.perm perm2.symm⟩ : e = Ending.returned (.tuple #[]) ∧ ∃ y' : SM, (SOK y' (applyS (stF fs) f) ∧ y'.ps = y.ps ∧ y'.N = none) ∧ Mem w2 ((Bk p3 f.cells 28) :: (Bk x.pf [rowV x.F fs.length, Pt y.ps] 78) :: (SO y' (applyS (stF fs) f).ref.length ++ (rowO 28 x.F ++ L))) ro)
   simpa using h) ?_
  rintro y' ⟨hy', hp', hN'⟩
  refine Ze (Zt (Zs ?_))
  refine rg_inv ([(Bk p3 f.cells 28), (Bk x.pf [rowV x.F fs.length, Pt y.ps] 78)]) 10 (.flt 0 (.flt 1 (.flt 2 (.flt 3 (.flt 4 (.flt 5 (.gr 6 (.gr 7 (.flt 8 (.flt 9 .done)) .nil) .nil))))))) (((List.nil_sublist _).cons_cons _).cons_cons _) Zk Zk ?_
  refine j_val rfl rfl (v_move rfl) ?_
  refine j_val rfl rfl (v_move rfl) ?_
  refine j_val rfl rfl (v_nilCheck rfl) ?_
  refine j_val rfl rfl (v_fieldAddr (off' := 0) u78 rfl sz24 (by decide) rfl rfl) ?_
  refine j_val rfl rfl (v_load u24 rfl rfl (at_ownL (vs := [rowV x.F fs.length, Pt y.ps]) (.tail _ (.head _)) rfl)) ?_
  refine j_val rfl rfl (v_load_blk u28 rfl rfl (.head _) (by exact sz28)) ?_
  refine j_gr ?_ j_nil
  refine x_buildSliceL (cs := f.cells) rfl rfl rfl u24 sz28 zr28 rfl rfl rfl ?_
  intro p62
  refine Ze ?_
  refine j_end ((((List.nil_sublist _).cons_cons _).cons_cons _).cons _) ?_
  refine j_gr ?_ j_nil
  refine x_append (e := 28) ((Bk p62 f.cells 28) :: (Bk p3 f.cells 28) :: (Bk x.pf [rowV x.F fs.length, Pt y.ps] 78) :: SO y' (applyS (stF fs) f).ref.length) (l2 := L) x.F (len := fs.length) (xs := fdsC fs) rfl rfl rfl rfl (by simp) hk.row u24 ap28 rfl rfl (m := 1) (news := f.cells) (fun i hi => at_ownL (vs := f.cells) (.head _) (by rw [Nat.zero_add]; exact List.getElem?_eq_getElem hi)) rfl Zx (by omega) fun R' hR' => ?_
  refine Ze ?_
  refine j_end ((((List.nil_sublist _).cons_cons _).cons_cons _).cons _) ?_
  refine j_val rfl rfl (v_nilCheck rfl) ?_
  refine j_val rfl rfl (v_fieldAddr (off' := 0) u78 rfl sz24 (by decide) rfl rfl) ?_
  refine j_done ?_
  refine x_store (cs := [rowV x.F fs.length, Pt y.ps]) (off := 0) (e := 78) (l2 := SO y' (applyS (stF fs) f).ref.length ++ (rowO 28 R' ++ L)) [(Bk p62 f.cells 28), (Bk p3 f.cells 28)] rfl rfl rfl (by simp) sz24 rfl (by show 0 + 1 ≤ 2; decide) ?_
  refine Ze (Zt (Zs (Zr ?_)))
  refine Xa ?_
  refine Ze (Zt (w_ret (t_ret ?_)))
  have htk : takeF fs f = (0, fs ++ [f]) := by rw [take_ok hk.ok.srt hrt hkn (by omega), hps, List.take_length, List.drop_length]
  have hok2 := hk.ok.take f
  rw [htk] at hok2 ⊢
  exact ret1 rfl rfl (fun w' hm' => ⟨rfl, ⟨x.pf, R', some y'⟩, ⟨⟨by rw [List.length_append]; unfold fdsC at hR' ⊢; rw [List.flatMap_append]; exact (by simpa using hR'), hok2, fun q hq => (List.mem_append.1 hq).elim (hk.sz q) (fun h => by rw [List.mem_singleton.1 h]; exact hin), fun y2 hy2 => by injection hy2 with hy2; subst hy2; rw [stF_snoc]; exact ⟨hy', nok_none hN'⟩⟩, rfl⟩, ((hm'.less ((List.sublist_cons_self _ _).trans (List.sublist_cons_self _ _)) (fun _ h => h)).to (by rw [← hp']; dsimp only; rw [List.length_append, stF_snoc]; rfl)).perm (FO_some (x := ⟨x.pf, R', some y'⟩) rfl L).symm⟩)
 simp only [hb51, Qz, ne_eq] at hc51
 refine w_skip (Zt (Zs ?_))
 refine rg_inv ([(Bk p3 f.cells 28), (Bk x.pf (fmC x fs.length) 78)]) 11 (.flt 0 (.flt 1 (.flt 2 (.flt 3 (.flt 4 (.flt 5 (.flt 6 (.gr 7 (.gr 8 (.flt 9 (.flt 10 .done)) .nil) .nil)))))))) (((List.nil_sublist _).cons_cons _).cons_cons _) Zk Zk ?_
 refine j_val rfl rfl (v_move rfl) ?_
 refine j_val rfl rfl (v_move rfl) ?_
 refine j_val rfl rfl (v_nilCheck rfl) ?_
 refine j_val rfl rfl (v_fieldAddr (off' := 0) u78 rfl sz24 (by decide) rfl rfl) ?_
 refine j_val rfl rfl (v_load u24 rfl rfl (at_ownL (vs := fmC x fs.length) (.tail _ (.head _)) rfl)) ?_
 refine j_val rfl rfl (v_move rfl) ?_
 refine j_val rfl rfl (v_load_blk u28 rfl rfl (.head _) (by exact sz28)) ?_
 refine j_gr ?_ j_nil
 refine x_buildSliceL (cs := f.cells) rfl rfl rfl u24 sz28 zr28 rfl rfl rfl ?_
 intro p73
 refine Ze ?_
 refine j_end ((((List.nil_sublist _).cons_cons _).cons_cons _).cons _) ?_
 refine j_gr ?_ j_nil
 refine x_mem (fun _ h => h.perm (perm2.cons _)) ?_
 refine x_turnV (fst := #[]) (cap := #[]) (fun R' : RowS => rowV R' (fs.length + 1)) (fun R' => rowOK 6 R' (fs.length + 1) (fdsC (fs.take (posF fs f) ++ f :: fs.drop (posF fs f)))) (fun R' => (Bk p73 f.cells 28) :: (Bk p3 f.cells 28) :: (Bk x.pf (fmC x fs.length) 78) :: (rowO 28 R' ++ (nowO x.now (stF fs).ref.length ++ L))) rfl rfl rfl Tryz.func44 Zk rfl (fun w1 hw1 => by
  have h := (k_InsertF fs (posF fs f) f hw1 hk.row (posF_le fs f) (by omega)).mono fun e w2 ⟨R', h1, h2, h3⟩ => (⟨R', h1, h2, h3.perm (perm2.cons _).symm⟩ : ∃ R', e = Ending.returned (rowV R' (fs.length + 1)) ∧ rowOK 6 R' (fs.length + 1) (fdsC (fs.take (posF fs f) ++ f :: fs.drop (posF fs f))) ∧ Mem w2 ((Bk p73 f.cells 28) :: (Bk p3 f.cells 28) :: (Bk x.pf (fmC x fs.length) 78) :: (rowO 28 R' ++ (nowO x.now (stF fs).ref.length ++ L))) ro)
  simpa using h) ?_
 intro R' hR'
 refine Ze ?_
 refine j_end ((((List.nil_sublist _).cons_cons _).cons_cons _).cons _) ?_
 refine j_val rfl rfl (v_nilCheck rfl) ?_
 refine j_val rfl rfl (v_fieldAddr (off' := 0) u78 rfl sz24 (by decide) rfl rfl) ?_
 refine j_done ?_
 refine x_store (cs := fmC x fs.length) (off := 0) (e := 78) (l2 := rowO 28 R' ++ (nowO x.now (stF fs).ref.length ++ L)) [(Bk p73 f.cells 28), (Bk p3 f.cells 28)] rfl rfl rfl rfl sz24 rfl (by show 0 + 1 ≤ 2; decide) ?_
 refine Ze (Zt (Zs (Zr ?_)))
 refine Xm ?_
 refine Xn ?_
 refine Xf 1 rfl u78 rfl sz76 ?_
 refine x_store (cs := [rowV R' (fs.length + 1), nowV x.now]) (off := 1) (e := 78) (l2 := rowO 28 R' ++ (nowO x.now (stF fs).ref.length ++ L)) [(Bk p73 f.cells 28), (Bk p3 f.cells 28)] rfl rfl rfl rfl sz76 rfl (by show 1 + 1 ≤ 2; decide) ?_
 refine Ze (Zt (Zs (Zr ?_)))
 refine Xa ?_
 refine Ze (Zt (w_ret ?_))
 have htk := take_ok hk.ok.srt hrt hkn (by omega)
 have hok2 := hk.ok.take f
 have hle2 : (fs.take (posF fs f) ++ f :: fs.drop (posF fs f)).length = fs.length + 1 := by
  have := posF_le fs f
  rw [List.length_append, List.length_cons, List.length_take, List.length_drop]; omega
 rw [htk] at hok2 ⊢
 exact ret1 rfl rfl (fun w' hm' => ⟨rfl, ⟨x.pf, R', none⟩, ⟨⟨by dsimp only; rw [hle2]; exact hR', hok2, fun q hq => by
  rcases List.mem_append.1 hq with h | h
  ·exact hk.sz q (List.mem_of_mem_take h)
  rcases List.mem_cons.1 h with rfl | h
  ·exact hin
  exact hk.sz q (List.mem_of_mem_drop h), fun y2 hy2 => by cases hy2⟩, rfl⟩, (hm'.less ((((List.Sublist.refl _).append (List.sublist_append_right _ _)).cons_cons _).cons _ |>.cons _) (fun _ h => h)).to (by rw [FO_none rfl]; dsimp only; rw [hle2]; rfl)⟩)
theorem k_Take {x : FM8} {fs : List FD} {f : FD} {L : List (Nat × Obj)} {ro : List Snap} {w w0 : World} (hk : FOK x fs) (hin : inFD f) (hro : (w0, fun _ => True) ∈ ro) (hL : LD w0) (hm : Mem w (FO x fs ++ L) ro) : Calls Tryz.prog 17 #[Pt x.pf, Value.agg f.cells.toArray] w fun e w' => e = .returned (Vi (takeF fs f).1) ∧ ∃ x' : FM8, (FOK x' (takeF fs f).2 ∧ x'.pf = x.pf) ∧ Mem w' (FO x' (takeF fs f).2 ++ L) ro := k_TakeA hk hin hro hL (hm.to (FO_app x fs L))
open Go.RowKit Go.PK
theorem k_leastN {m : Nat} {es : Array MapEntry} {ck : Nat} {g : ByteArray → Int} {t : ByteArray} {id : Int} {L : List (Nat × Obj)} {ro : List Snap} {w : World} (hC : MapC Tryz.prog 9 es ck (gM g)) (ht : t.size ≤ maxLen) (hid : 1 ≤ id) (hm : Mem w ((m, Obj.map es ck) :: L) ro) (h0 : g t = 0) :
  Calls Tryz.prog 87 #[.map (some m), .string t, Vi id] w fun e w' => e = .returned (.tuple #[]) ∧ ∃ z : Array MapEntry × Nat, MapC Tryz.prog 9 z.1 z.2 (gM (lst g [t] id)) ∧ Mem w' ((m, Obj.map z.1 z.2) :: L) ro := by
 refine enter_in hm (vs := [.map (some m), .string t, Vi id]) Tryz.func87 rfl Tryz.ntmps87 rfl ?_
 refine Zs (Zr ?_)
 refine Xm ?_
 refine Xm ?_
 refine Xv (v := Value.tuple #[Vi 0, .bool false]) rfl (v_lookup2H u89 (Maps.string_keyed u9) zr3 rfl rfl (WideMaps.keyOf_string_mk u9 ht) (map_own (.head _)) hC.f (by rw [gM_at, if_pos h0]; rfl) (by rw [gM_at, if_pos h0]; rfl)) ?_
 refine Xm ?_
 refine Xe ?_
 refine Xb rfl (v_extract rfl rfl) fun b13 hb13 => ?_
 refine Xa ?_
 refine Xa ?_
 refine Ze (Zt (Zs (Zr ?_)))
 refine Xm ?_
 refine Xb rfl (v_not rfl) fun b15 hb15 => ?_
 refine Xm ?_
 refine Xg ?_
 refine Xg ?_
 refine Xj rfl rfl rfl (fun hg0 => by subst hg0; (try simp only [Qy]); exact v_lss rfl rfl) fun b19 hb19 => ?_
 refine Xb rfl (v_or rfl rfl) fun b20 hb20 => ?_
 refine Ze (Zt ?_)
 refine w_cond rfl (fun hc20 => ?_) fun hc20 => ?_
 ·skip
  refine Zr ?_
  refine Xm ?_
  refine Xm ?_
  refine Xm ?_
  refine x_mapUpdateC [] rfl rfl rfl rfl u89 (Maps.string_keyed u9) (WideMaps.keyOf_string_mk u9 ht) rfl hC ?_
  intro es21 clock21 hmf21
  refine Ze ?_
  exact ret0 rfl (fun w' hm' => ⟨rfl, (es21, clock21), by rw [lst_put (.inl h0) hid]; exact hmf21, hm'⟩)
 rw [hb20, hb15, hb13] at hc20; simp at hc20
theorem k_leastS {m : Nat} {es : Array MapEntry} {ck : Nat} {g : ByteArray → Int} {t : ByteArray} {id : Int} {L : List (Nat × Obj)} {ro : List Snap} {w : World} (hC : MapC Tryz.prog 9 es ck (gM g)) (ht : t.size ≤ maxLen) (hid : 1 ≤ id) (hm : Mem w ((m, Obj.map es ck) :: L) ro) (h0 : ¬g t = 0) :
  Calls Tryz.prog 87 #[.map (some m), .string t, Vi id] w fun e w' => e = .returned (.tuple #[]) ∧ ∃ z : Array MapEntry × Nat, MapC Tryz.prog 9 z.1 z.2 (gM (lst g [t] id)) ∧ Mem w' ((m, Obj.map z.1 z.2) :: L) ro := by
 refine enter_in hm (vs := [.map (some m), .string t, Vi id]) Tryz.func87 rfl Tryz.ntmps87 rfl ?_
 refine Zs (Zr ?_)
 refine Xm ?_
 refine Xm ?_
 refine Xv (v := Value.tuple #[Vi (g t), .bool true]) rfl (v_lookup2H u89 (Maps.string_keyed u9) zr3 rfl rfl (WideMaps.keyOf_string_mk u9 ht) (map_own (.head _)) hC.f (by rw [gM_at, if_neg h0]; rfl) (by rw [gM_at, if_neg h0]; rfl)) ?_
 refine Xm ?_
 refine Xe ?_
 refine Xb rfl (v_extract rfl rfl) fun b13 hb13 => ?_
 refine Xa ?_
 refine Xa ?_
 refine Ze (Zt (Zs (Zr ?_)))
 refine Xm ?_
 refine Xb rfl (v_not rfl) fun b15 hb15 => ?_
 refine Xm ?_
 refine Xg ?_
 refine Xg ?_
 refine Xj rfl rfl rfl (fun hg0 => by subst hg0; (try simp only [Qy]); exact v_lss rfl rfl) fun b19 hb19 => ?_
 refine Xb rfl (v_or rfl rfl) fun b20 hb20 => ?_
 refine Ze (Zt ?_)
 refine w_cond rfl (fun hc20 => ?_) fun hc20 => ?_
 ·simp only [hb20, hb19, hb15, hb13, Qz, ne_eq] at hc20
  refine Zr ?_
  refine Xm ?_
  refine Xm ?_
  refine Xm ?_
  refine x_mapUpdateC [] rfl rfl rfl rfl u89 (Maps.string_keyed u9) (WideMaps.keyOf_string_mk u9 ht) rfl hC ?_
  intro es21 clock21 hmf21
  refine Ze ?_
  exact ret0 rfl (fun w' hm' => ⟨rfl, (es21, clock21), by rw [lst_put (.inr (by simpa using hc20)) hid]; exact hmf21, hm'⟩)
 simp only [hb20, hb19, hb15, hb13, Qz, ne_eq] at hc20
 refine w_skip ?_
 exact ret0 rfl (fun w' hm' => ⟨rfl, (es, ck), by rw [lst_keep (fun h => h.elim h0 hc20.2)]; exact hC, hm'⟩)
theorem k_least {m : Nat} {es : Array MapEntry} {ck : Nat} {g : ByteArray → Int} {t : ByteArray} {id : Int} {L : List (Nat × Obj)} {ro : List Snap} {w : World} (hC : MapC Tryz.prog 9 es ck (gM g)) (ht : t.size ≤ maxLen) (hid : 1 ≤ id) (hm : Mem w ((m, Obj.map es ck) :: L) ro) : Calls Tryz.prog 87 #[.map (some m), .string t, Vi id] w fun e w' => e = .returned (.tuple #[]) ∧ ∃ z : Array MapEntry × Nat, MapC Tryz.prog 9 z.1 z.2 (gM (lst g [t] id)) ∧ Mem w' ((m, Obj.map z.1 z.2) :: L) ro := by
 by_cases h0 : g t = 0
 ·exact k_leastN hC ht hid hm h0
 exact k_leastS hC ht hid hm h0
theorem HO_head {hs : List HM} {y : HM} (h : y ∈ hs) : (Bk y.p (hmC y) 97) ∈ HO hs := List.mem_flatMap.2 ⟨y, h, .head _⟩
theorem HO_oth {hs : List HM} {y : HM} (h : y ∈ hs) {q : Nat × Obj} (hq : q ∈ rowO 9 y.O) : q ∈ HO hs := List.mem_flatMap.2 ⟨y, h, .tail _ (List.mem_append_left _ hq)⟩
theorem oth_cell {y : HM} (h : hmOK y) {j : Nat} (hj : j < y.g.oth.length) : ∃ g cs c, y.O = some (g, cs, c) ∧ y.g.oth.length ≤ c ∧ cs[j]? = some (.string (foldS y.g.oth[j])) := by
 obtain ⟨g, cs, c, hO, h1⟩ := h.1.cell (j := j) (by unfold othC; rw [List.length_map]; exact hj)
 have h2 := h.1
 rw [hO] at h2
 obtain ⟨_, h3, _, _, h4⟩ := h2
 refine ⟨g, cs, c, hO, h3, h1.trans ?_⟩
 unfold othC
 rw [List.getElem_map]
theorem lst_perm {α : Type} {a c d e : α} {S R L : List α} : (a :: c :: d :: e :: (S ++ (R ++ L))).Perm (d :: e :: (S ++ (R ++ (c :: a :: L)))) := by
 have h1 : (a :: c :: d :: e :: (S ++ (R ++ L))).Perm (c :: a :: d :: e :: (S ++ (R ++ L))) := List.Perm.swap _ _ _
 have h2 : (c :: a :: (d :: e :: (S ++ (R ++ L)))).Perm ((d :: e :: (S ++ R)) ++ (c :: a :: L)) := by
  have h3 := (perm2 (a := c) (c := a) (S := d :: e :: (S ++ R)) (L := L))
  simpa [List.append_assoc] using h3
 exact h1.trans (h2.trans (by simp [List.append_assoc]))
set_option maxHeartbeats 2000000 in
theorem k_listN {x : SM} {s : SG8} {n : Nat} {L : List (Nat × Obj)} {ro : List Snap} {w : World} (hk : SOK x s) (ha : Acy s.hs) (hb : bndS 10000 s) (hsz : ∀ h ∈ s.hs, szH 4000000 h) (hm : Mem w ((Bk x.ps [Value.map (some x.mH), rowV x.R n, .map none, x.al] 91) :: (x.mH, Obj.map x.es x.ck) :: (HO x.hs ++ (rowO 28 x.R ++ L))) ro) :
  Calls Tryz.prog 50 #[Pt x.ps] w fun e w' => e = .returned (.tuple #[]) ∧ ∃ y : NM, NOK { x with N := some y, al := .map (some y.mA) } s ∧ Mem w' (SO { x with N := some y, al := .map (some y.mA) } n ++ L) ro := by
 refine enter_in hm (vs := [Pt x.ps]) Tryz.func50 rfl Tryz.ntmps50 rfl ?_
 refine Zs (Zs (Zr ?_))
 refine Xm ?_
 refine Xn ?_
 refine Xf 2 rfl u91 rfl sz89 ?_
 refine Xl rfl u89 rfl (at_ownL (vs := [Value.map (some x.mH), rowV x.R n, .map none, x.al]) (.head _) rfl) ?_
 refine Xb rfl (v_nem (p := none) u89 rfl rfl) fun b10 hb10 => ?_
 refine Ze (Zt ?_)
 refine w_cond rfl (fun hc10 => ?_) fun hc10 => ?_
 ·rw [hb10] at hc10; cases hc10
 skip
 refine w_skip (Zt (Zs (Zr ?_)))
 refine Xm ?_
 refine Xm ?_
 refine x_makeMap rfl rfl rfl ?_
 intro p13
 refine x_makeMap rfl rfl rfl ?_
 intro p14
 refine Xn ?_
 refine Xf 2 rfl u91 rfl sz89 ?_
 refine x_store (cs := [Value.map (some x.mH), rowV x.R n, .map none, x.al]) (off := 2) (e := 91) (l2 := (x.mH, Obj.map x.es x.ck) :: (HO x.hs ++ (rowO 28 x.R ++ L))) [(p14, _), (p13, _)] rfl rfl rfl rfl sz89 rfl (by show 2 + 1 ≤ 4; decide) ?_
 refine Xn ?_
 refine Xf 3 rfl u91 rfl sz89 ?_
 refine x_store (cs := [Value.map (some x.mH), rowV x.R n, .map (some p13), x.al]) (off := 3) (e := 91) (l2 := (x.mH, Obj.map x.es x.ck) :: (HO x.hs ++ (rowO 28 x.R ++ L))) [(p14, _), (p13, _)] rfl rfl rfl rfl sz89 rfl (by show 3 + 1 ≤ 4; decide) ?_
 refine Ze (Zt (Zs (Zr ?_)))
 refine Xm ?_
 refine Xn ?_
 refine Xf 0 rfl u91 rfl sz88 ?_
 refine Xl rfl u88 rfl (at_ownL (vs := [Value.map (some x.mH), rowV x.R n, Value.map (some p13), Value.map (some p14)]) (.tail _ (.tail _ (.head _))) rfl) ?_
 refine x_range rfl rfl rfl u88 rfl (map_own (.tail _ (.tail _ (.tail _ (.head _))))) fun r23 => ?_
 refine Ze (Zt (w_block ?_))
 refine w_loop (σ := Array Nat × List MapEntry × Array MapEntry × Nat × Array MapEntry × Nat) (fun z => Iter x.es z.1 z.2.1 ∧ MapC Tryz.prog 9 z.2.2.1 z.2.2.2.1 (gM (fun t => leastB (namedB t) (z.2.1.map (entH (gs8 x.hs))))) ∧ MapC Tryz.prog 9 z.2.2.2.2.1 z.2.2.2.2.2 (gM (fun t => leastB (alsoB t) (z.2.1.map (entH (gs8 x.hs)))))) (fun z => [(0, Pt x.ps), (23, Pt r23)]) (fun z => (r23, Obj.mapIter (some x.mH) x.ck z.1 x.ck) :: (p14, Obj.map z.2.2.2.2.1 z.2.2.2.2.2) :: (p13, Obj.map z.2.2.1 z.2.2.2.1) :: (Bk x.ps [Value.map (some x.mH), rowV x.R n, Value.map (some p13), Value.map (some p14)] 91) :: (x.mH, Obj.map x.es x.ck) :: (HO x.hs ++ (rowO 28 x.R ++ L))) (fun z => ro) (fun z => x.es.size - z.2.1.length) ((#[], [], #[], 0, #[], 0)) (⟨Iter.nil, by rw [show (fun t => leastB (namedB t) (List.map (entH (gs8 x.hs)) [])) = fun _ => 0 from rfl, gM_zero]; exact MapC.empty, by rw [show (fun t => leastB (alsoB t) (List.map (entH (gs8 x.hs)) [])) = fun _ => 0 from rfl, gM_zero]; exact MapC.empty⟩) (l_start Zu (fun _ h => h)) ?_
 rintro ⟨seen, dn, en, cn, ea, ca⟩ ⟨hit, hcn, hca⟩
 refine w_state ([(0, Pt x.ps), (23, Pt r23)]) ((r23, Obj.mapIter (some x.mH) x.ck seen x.ck) :: (p14, Obj.map ea ca) :: (p13, Obj.map en cn) :: (Bk x.ps [Value.map (some x.mH), rowV x.R n, Value.map (some p13), Value.map (some p14)] 91) :: (x.mH, Obj.map x.es x.ck) :: (HO x.hs ++ (rowO 28 x.R ++ L))) (ro) ?_
 dsimp only at hit hcn hca
 refine Zs ?_
 by_cases h0 : (leftOf x.es seen).size = 0
 ·skip
  refine Zr ?_
  refine x_next [] rfl rfl rfl rfl (Nat.le_refl _) (map_own (.tail _ (.tail _ (.tail _ (.tail _ (.head _)))))) hk.mc.bornLt (fun h => ?_) (fun e he => absurd h0 (by rw [← Array.length_toList]; exact Nat.ne_of_gt (List.length_pos_of_mem he)))
  refine Xb rfl (v_extract rfl rfl) fun b25 hb25 => ?_
  obtain rfl : b25 = false := hb25
  refine Ze (Zt (Zs ?_))
  refine w_cond rfl (fun hc25 => ?_) fun hc25 => ?_
  ·cases hc25
  skip
  refine w_exit ?_
  refine t_exit ?_
  refine t_exit ?_
  refine b_hit ?_
  have hpm := (hit.done hk.mc h0).map (entH (gs8 x.hs))
  have hpm := hpm.trans (entH_all hk.mc (by rw [hk.hs]; exact ha.ids))
  rw [hk.hs] at hpm
  rw [hk.hs] at hcn hca
  have hpos : ∀ h ∈ dn.map (entH s.hs), 1 ≤ h.id := fun h hh => (ha.pos h (hpm.mem_iff.1 hh)).1
  have e1 : (fun t => leastB (namedB t) (dn.map (entH s.hs))) = fun t => leastB (namedB t) s.hs := funext fun t => leastB_perm hpm hpos
  have e2 : (fun t => leastB (alsoB t) (dn.map (entH s.hs))) = fun t => leastB (alsoB t) s.hs := funext fun t => leastB_perm hpm hpos
  rw [e1] at hcn
  rw [e2] at hca
  exact ret0 rfl (fun w' hm' => ⟨rfl, ⟨p13, en, cn, p14, ea, ca⟩, ⟨fun y hy => (by injection hy with hy; subst hy; rfl), fun y hy => (by injection hy with hy; subst hy; exact hcn), fun y hy => (by injection hy with hy; subst hy; exact hca)⟩, ((hm'.less (List.sublist_cons_self _ _) (fun _ h => h)).perm lst_perm).to (by simp [SO, nmO, smC, nmV])⟩)
 skip
 refine Zr ?_
 refine x_next [] rfl rfl rfl rfl (Nat.le_refl _) (map_own (.tail _ (.tail _ (.tail _ (.tail _ (.head _)))))) hk.mc.bornLt (fun h => absurd h h0) (fun e he => ?_)
 obtain ⟨hit2, hes, hnd⟩ := hit.push he
 obtain ⟨aa, y, cc, hxy, hee, heh⟩ := entH_at hk.mc hes
 obtain ⟨ek, ev, eb⟩ := e
 dsimp only at hee heh
 injection hee with h1 h2
 subst h1 h2
 have hy : y ∈ x.hs := by rw [hxy]; simp
 have hyg : y.g ∈ s.hs := by rw [← hk.hs]; exact List.mem_map_of_mem hy
 have hyid := (ha.pos y.g hyg).1
 have hysz := hsz y.g hyg
 have hyo := (hb.oth y.g hyg).1
 refine Xb rfl (v_extract rfl rfl) fun b25 hb25 => ?_
 obtain rfl : b25 = true := hb25
 refine Ze (Zt (Zs ?_))
 refine w_cond rfl (fun hc25 => ?_) fun hc25 => ?_
 ·skip
  refine w_skip (Zt (w_block (Zs (Zr ?_))))
  refine Xv (v := Value.tuple #[Vi y.g.id, Pt y.p]) rfl (v_entry (x := ⟨Vi y.g.id, Pt y.p, eb⟩) rfl (.head _) (map_own (.tail _ (.tail _ (.tail _ (.tail _ (.head _)))))) hes hk.mc.bornNd) ?_
  refine Xe ?_
  refine Xe ?_
  refine Xa ?_
  refine Xa ?_
  refine Ze (Zt (Zs ?_))
  refine rg_draw 9 [(true, 0), (true, 1), (true, 2), (true, 3), (true, 4), (true, 5), (true, 6), (true, 7), (true, 8)] Zk Zk ?_
  refine Xm ?_
  refine Xn ?_
  refine Xf 2 rfl u91 rfl sz89 ?_
  refine Xl rfl u89 rfl (at_ownL (vs := [Value.map (some x.mH), rowV x.R n, Value.map (some p13), Value.map (some p14)]) (.tail _ (.tail _ (.tail _ (.head _)))) rfl) ?_
  refine Xm ?_
  refine Xn ?_
  refine Xf _ rfl u97 rfl sz9 ?_
  refine Xl rfl u9 rfl (at_ownL (vs := hmC y) (.tail _ (.tail _ (.tail _ (.tail _ (.tail _ (List.mem_append_left _ (HO_head hy))))))) rfl) ?_
  refine Xm ?_
  refine x_turn (τ := Array MapEntry × Nat) (v := .tuple #[]) (fst := #[]) (cap := #[]) (fun z => MapC Tryz.prog 9 z.1 z.2 (gM (lst (fun t => leastB (namedB t) (dn.map (entH (gs8 x.hs)))) [foldS y.g.name] y.g.id))) (fun z => (r23, Obj.mapIter (some x.mH) x.ck (seen.push eb) x.ck) :: (p14, Obj.map ea ca) :: (p13, Obj.map z.1 z.2) :: (Bk x.ps [Value.map (some x.mH), rowV x.R n, Value.map (some p13), Value.map (some p14)] 91) :: (x.mH, Obj.map x.es x.ck) :: (HO x.hs ++ (rowO 28 x.R ++ L))) rfl rfl rfl Tryz.func87 Zk rfl (fun w1 hw1 => by
   have h := k_least (t := foldS y.g.name) (id := y.g.id) hcn (by have h9 := foldS_size (y.g.name); have h8 := hysz.1; simp only [maxLen]; omega) hyid (hw1.perm (List.perm_middle (l₁ := [_, _])))
   simp only [Array.empty_append, Array.append_empty]
   exact h.mono fun e w2 ⟨h1, z, h2, h3⟩ => ⟨h1, z, h2, h3.perm (List.perm_middle (l₁ := [_, _])).symm⟩) ?_
  intro zm hzm
  refine Ze (Zt (Zs (Zr ?_)))
  refine Xm ?_
  refine Xn ?_
  refine Xf _ rfl u97 rfl sz38 ?_
  refine Xl rfl u38 rfl (at_ownL (vs := hmC y) (.tail _ (.tail _ (.tail _ (.tail _ (.tail _ (List.mem_append_left _ (HO_head hy))))))) rfl) ?_
  refine Xv (v := Vi (y.g.oth.length : Nat)) rfl (v_len_slice u38 rfl) ?_
  refine Xm ?_
  refine Ze (Zt (w_block ?_))
  refine w_loop (σ := Nat × Array MapEntry × Nat) (fun q => q.1 ≤ y.g.oth.length ∧ MapC Tryz.prog 9 q.2.1 q.2.2 (gM (lst (fun t => leastB (alsoB t) (dn.map (entH (gs8 x.hs)))) ((y.g.oth.map foldS).take q.1) y.g.id))) (fun q => [(0, Pt x.ps), (2, Vi y.g.id), (3, Pt y.p), (23, Pt r23), (42, rowV y.O y.g.oth.length), (43, Vi (y.g.oth.length : Nat)), (44, Vi (q.1 : Nat))]) (fun q => (r23, Obj.mapIter (some x.mH) x.ck (seen.push eb) x.ck) :: (p14, Obj.map q.2.1 q.2.2) :: (p13, Obj.map zm.1 zm.2) :: (Bk x.ps [Value.map (some x.mH), rowV x.R n, Value.map (some p13), Value.map (some p14)] 91) :: (x.mH, Obj.map x.es x.ck) :: (HO x.hs ++ (rowO 28 x.R ++ L))) (fun q => ro) (fun q => y.g.oth.length - q.1) ((0, ea, ca)) (⟨Nat.zero_le _, by rw [List.take_zero, lst_nil]; exact hca⟩) (l_start Zu (fun _ h => h)) ?_
  rintro ⟨j, eq, cq⟩ ⟨hj, hcj⟩
  refine w_state ([(0, Pt x.ps), (2, Vi y.g.id), (3, Pt y.p), (23, Pt r23), (42, rowV y.O y.g.oth.length), (43, Vi (y.g.oth.length : Nat)), (44, Vi (j : Nat))]) ((r23, Obj.mapIter (some x.mH) x.ck (seen.push eb) x.ck) :: (p14, Obj.map eq cq) :: (p13, Obj.map zm.1 zm.2) :: (Bk x.ps [Value.map (some x.mH), rowV x.R n, Value.map (some p13), Value.map (some p14)] 91) :: (x.mH, Obj.map x.es x.ck) :: (HO x.hs ++ (rowO 28 x.R ++ L))) (ro) ?_
  dsimp only at hj hcj
  refine Zs (Zr ?_)
  refine Xb rfl (v_lss rfl rfl) fun b45 hb45 => ?_
  refine Ze (Zt (Zs ?_))
  refine w_cond rfl (fun hc45 => ?_) fun hc45 => ?_
  ·simp only [hb45, Qz, ne_eq] at hc45
   have hjl : j < y.g.oth.length := by omega
   obtain ⟨g, cs, c, hRg, hcap, hcl⟩ := oth_cell (hk.ok y hy) hjl
   refine w_skip (Zt (Zs (w_block (Zs (Zr ?_)))))
   refine Xv rfl (v_indexAddr u38 sz9 (congrArg (fun R => some (rowV R y.g.oth.length)) hRg) rfl (hjl) rfl) ?_
   refine Xl rfl u9 rfl (at_ownL (vs := cs) (.tail _ (.tail _ (.tail _ (.tail _ (.tail _ (List.mem_append_left _ (HO_oth hy (by rw [hRg]; exact .head _)))))))) (by rw [Nat.zero_add, Nat.mul_one]; exact hcl)) ?_
   refine Xa ?_
   refine Ze (Zt (Zr ?_))
   refine Xm ?_
   refine Xn ?_
   refine Xf 3 rfl u91 rfl sz89 ?_
   refine Xl rfl u89 rfl (at_ownL (vs := [Value.map (some x.mH), rowV x.R n, Value.map (some p13), Value.map (some p14)]) (.tail _ (.tail _ (.tail _ (.head _)))) rfl) ?_
   refine Xm ?_
   refine Xm ?_
   refine x_turn (τ := Array MapEntry × Nat) (v := .tuple #[]) (fst := #[]) (cap := #[]) (fun z => MapC Tryz.prog 9 z.1 z.2 (gM (lst (lst (fun t => leastB (alsoB t) (dn.map (entH (gs8 x.hs)))) ((y.g.oth.map foldS).take j) y.g.id) [foldS y.g.oth[j]] y.g.id))) (fun z => (r23, Obj.mapIter (some x.mH) x.ck (seen.push eb) x.ck) :: (p14, Obj.map z.1 z.2) :: (p13, Obj.map zm.1 zm.2) :: (Bk x.ps [Value.map (some x.mH), rowV x.R n, Value.map (some p13), Value.map (some p14)] 91) :: (x.mH, Obj.map x.es x.ck) :: (HO x.hs ++ (rowO 28 x.R ++ L))) rfl rfl rfl Tryz.func87 Zk rfl (fun w1 hw1 => by
    have h := k_least (t := foldS y.g.oth[j]) (id := y.g.id) hcj (by have h9 := foldS_size (y.g.oth[j]); have h8 := hysz.2 _ (List.getElem_mem hjl); simp only [maxLen]; omega) hyid (hw1.perm (List.Perm.swap _ _ _))
    simp only [Array.empty_append, Array.append_empty]
    exact h.mono fun e w2 ⟨h1, z, h2, h3⟩ => ⟨h1, z, h2, h3.perm (List.Perm.swap _ _ _).symm⟩) ?_
   intro zq2 hzq
   refine Ze (b_norm (Zt (Zr ?_)))
   refine Xv rfl (v_addi rfl rfl rfl Zo) ?_
   refine Xm ?_
   refine Ze ?_
   exact l_norm (j + 1, zq2.1, zq2.2) ⟨hjl, by dsimp only; rw [List.take_succ_eq_append_getElem (by rw [List.length_map]; exact hjl), List.getElem_map, ← lst_snoc hyid]; exact hzq⟩ (by simp only; omega) Zu (fun _ h => h)
  simp only [hb45, Qz, ne_eq] at hc45
  obtain rfl : j = y.g.oth.length := by omega
  rw [List.take_of_length_le (by rw [List.length_map]; exact Nat.le_refl _), ← alsoL] at hcj
  rw [← namedL] at hzm
  have hde : (dn ++ [(⟨Vi y.g.id, Pt y.p, eb⟩ : MapEntry)]).map (entH (gs8 x.hs)) = dn.map (entH (gs8 x.hs)) ++ [y.g] := by rw [List.map_append, List.map_singleton, heh]
  refine w_exit ?_
  refine t_exit ?_
  refine t_exit ?_
  refine b_hit ?_
  refine b_norm ?_
  exact l_norm (seen.push eb, dn ++ [_], zm.1, zm.2, eq, cq) ⟨hit2, by dsimp only; rw [hde]; exact hzm, by dsimp only; rw [hde]; exact hcj⟩ (by have h9 := hit2.len hk.mc; rw [List.length_append, List.length_singleton] at h9; show x.es.size - (dn ++ [_]).length < x.es.size - dn.length; rw [List.length_append, List.length_singleton]; omega) Zu (fun _ h => h)
 cases hc25
open Go.RowKit Go.PK
theorem k_listS {x : SM} {n mN : Nat} {al : Value} {L : List (Nat × Obj)} {ro : List Snap} {w : World} (hm : Mem w ((Bk x.ps [Value.map (some x.mH), rowV x.R n, .map (some mN), al] 91) :: L) ro) :
  Calls Tryz.prog 50 #[Pt x.ps] w fun e w' => e = .returned (.tuple #[]) ∧ Mem w' ((Bk x.ps [Value.map (some x.mH), rowV x.R n, .map (some mN), al] 91) :: L) ro := by
 refine enter_in hm (vs := [Pt x.ps]) Tryz.func50 rfl Tryz.ntmps50 rfl ?_
 refine Zs (Zs (Zr ?_))
 refine Xm ?_
 refine Xn ?_
 refine Xf 2 rfl u91 rfl sz89 ?_
 refine Xl rfl u89 rfl (at_ownL (vs := [Value.map (some x.mH), rowV x.R n, .map (some mN), al]) (.head _) rfl) ?_
 refine Xb rfl (v_nem (p := some mN) u89 rfl rfl) fun b10 hb10 => ?_
 refine Ze (Zt ?_)
 refine w_cond rfl (fun hc10 => ?_) fun hc10 => ?_
 ·skip
  refine w_ret (t_ret ?_)
  exact ret0r rfl (fun w' hm' => ⟨rfl, hm'⟩)
 rw [hb10] at hc10; cases hc10
theorem k_list {x : SM} {s : SG8} {n : Nat} {L : List (Nat × Obj)} {ro : List Snap} {w : World} (hk : SOK x s) (ha : Acy s.hs) (hb : bndS 10000 s) (hsz : ∀ h ∈ s.hs, szH 4000000 h) (hN : NOK x s) (hm : Mem w (SO x n ++ L) ro) : Calls Tryz.prog 50 #[Pt x.ps] w fun e w' => e = .returned (.tuple #[]) ∧ ∃ y : NM, NOK { x with N := some y, al := .map (some y.mA) } s ∧ Mem w' (SO { x with N := some y, al := .map (some y.mA) } n ++ L) ro := by
 obtain ⟨ps, mH, es, ck, hs, R, N, al⟩ := x
 cases N with
 | none => exact k_listN hk ha hb hsz (hm.to (by simp [SO, smC, nmV, nmO]))
 | some y =>
  have e := hN.al y rfl
  dsimp only at e
  subst e
  exact (k_listS (x := ⟨ps, mH, es, ck, hs, R, some y, .map (some y.mA)⟩) (n := n) (mN := y.mN) (al := .map (some y.mA)) (L := (mH, Obj.map es ck) :: (HO hs ++ (rowO 28 R ++ nmO (some y))) ++ L) hm).mono fun e w2 ⟨h1, h2⟩ => ⟨h1, y, hN, h2⟩
theorem SOK.named {y : SM} {s : SG8} (h : SOK y s) (z : NM) : SOK { y with N := some z, al := .map (some z.mA) } s := ⟨h.hs, h.ok, h.mc, h.rf, h.ids⟩
theorem gM_get (g : ByteArray → Int) (t : ByteArray) : (gM g (.string t)).getD (Vi 0) = Vi (g t) := by
 rw [gM_at]
 split
 ·rename_i h; rw [h]; rfl
 rfl
theorem gM_is (g : ByteArray → Int) (t : ByteArray) : (gM g (.string t)).isSome = decide (g t ≠ 0) := by
 rw [gM_at]
 split
 ·rename_i h; rw [h]; rfl
 rename_i h; rw [decide_eq_true h]; rfl
theorem fs_sz {x : FM8} {fs : List FD} (h : FOK x fs) : ∀ g ∈ (stF fs).hs, szH 4000000 g := sz_stF fun f hf => (h.sz f hf).2.2.2.2.2
theorem fs_acy' {fs : List FD} (h : FsOK fs) : Acy (stF fs).hs := by have := fs_acy h fs.length; rwa [List.take_length] at this
theorem fs_bnd' {fs : List FD} (h : FsOK fs) : bndS 10000 (stF fs) := by have := fs_bnd h fs.length; rwa [List.take_length] at this
theorem ba_nil {t : ByteArray} : t = ⟨#[]⟩ ↔ t.size = 0 := by
 constructor
 ·rintro rfl; rfl
 intro h; obtain ⟨d⟩ := t; congr; exact Array.eq_empty_of_size_eq_zero h
set_option maxHeartbeats 1000000 in
theorem k_Find {x : FM8} {fs : List FD} {t : ByteArray} {L : List (Nat × Obj)} {ro : List Snap} {w w0 : World} (hk : FOK x fs) (ht : t.size ≤ 4000000) (hro : (w0, fun _ => True) ∈ ro) (hL : LD w0) (hm : Mem w (FO x fs ++ L) ro) :
  Calls Tryz.prog 19 #[Pt x.pf, .string t] w fun e w' => e = .returned (.tuple #[Vi (findF (stF fs).hs t).1, .bool (findF (stF fs).hs t).2]) ∧ ∃ x' : FM8, (FOK x' fs ∧ x'.pf = x.pf) ∧ Mem w' (FO x' fs ++ L) ro := by
 refine enter_in hm (vs := [Pt x.pf, .string t]) Tryz.func19 rfl Tryz.ntmps19 rfl ?_
 refine Zs (Zr ?_)
 refine Xa ?_
 refine Xa ?_
 refine Ze (Zt (Zs (Zr ?_)))
 refine Xm ?_
 refine x_callv rfl rfl rfl Tryz.func49 Zk rfl (fun w1 hw1 => k_Fold t w1 ht (hL.later (hw1.base hro))) ?_
 refine Xa ?_
 refine Ze (Zt (Zs (Zs (Zr ?_))))
 refine Xm ?_
 refine Xb rfl (v_pnil (o := some ⟨x.pf, 0, none⟩) u29 rfl rfl) fun b13 hb13 => ?_
 refine Xm ?_
 refine Xg ?_
 refine Xj rfl rfl rfl (fun hg0 => by subst hg0; (try simp only [Qy]); exact v_seql rfl rfl) fun b16 hb16 => ?_
 refine Xb rfl (v_or rfl rfl) fun b17 hb17 => ?_
 refine Ze (Zt ?_)
 refine w_cond rfl (fun hc17 => ?_) fun hc17 => ?_
 ·simp only [hb17, hb16, hb13, Qz, ne_eq] at hc17
  have h0 : (foldS t).size = 0 := ba_nil.1 (by simpa using hc17)
  refine Zs (Zr ?_)
  refine Xa ?_
  refine Xa ?_
  refine Ze (Zt (w_ret (t_ret ?_)))
  have hf : findF (stF fs).hs t = (0, false) := by unfold findF; rw [if_pos h0]
  rw [hf]
  exact ret2 rfl rfl rfl (fun w' hm' => ⟨rfl, x, ⟨hk, rfl⟩, hm'⟩)
 simp only [hb17, hb16, hb13, Qz, ne_eq] at hc17
 have h0 : ¬(foldS t).size = 0 := fun h => by simp [ba_nil.2 h] at hc17
 refine w_skip (Zt (Zs (Zr ?_)))
 refine Xm ?_
 refine x_turnV (τ := SM) (fst := #[]) (cap := #[]) (fun y => Pt y.ps) (fun y => FOK { x with now := some y } fs) (fun y => FO { x with now := some y } fs ++ L) rfl rfl rfl Tryz.func42 Zk rfl (fun w1 hw1 => by
  simp only [Array.empty_append, Array.append_empty]
  exact k_state (L := L) hk hro hL hw1) ?_
 intro y hky
 refine x_mem (fun _ h => (h.perm (FO_some (x := { x with now := some y }) rfl L)).perm List.perm_middle.symm) ?_
 refine Xa ?_
 refine Ze (Zt (Zs (Zr ?_)))
 refine Xm ?_
 refine x_turn (τ := NM) (v := .tuple #[]) (fst := #[]) (cap := #[]) (fun z => NOK { y with N := some z, al := .map (some z.mA) } (stF fs)) (fun z => SO { y with N := some z, al := .map (some z.mA) } (stF fs).ref.length ++ ((Bk x.pf [rowV x.F fs.length, Pt y.ps] 78) :: (rowO 28 x.F ++ L))) rfl rfl rfl Tryz.func50 Zk rfl (fun w1 hw1 => by
  simp only [Array.empty_append, Array.append_empty]
  exact k_list (hky.now y rfl).1 (fs_acy' hk.ok) (fs_bnd' hk.ok) (fs_sz hk) (hky.now y rfl).2 hw1) ?_
 intro z hz
 refine Ze (Zt (Zs (Zr ?_)))
 refine Xm ?_
 refine Xn ?_
 refine Xf _ rfl u91 rfl sz89 ?_
 refine Xl rfl u89 rfl (at_ownL (vs := smC { y with N := some z, al := .map (some z.mA) } (stF fs).ref.length) (.head _) rfl) ?_
 refine Xm ?_
 refine Xv (v := Value.tuple #[Vi ((fun t => leastB (namedB t) (stF fs).hs) (foldS t)), .bool (decide ((fun t => leastB (namedB t) (stF fs).hs) (foldS t) ≠ 0))]) rfl (v_lookup2H u89 (Maps.string_keyed u9) zr3 rfl rfl (WideMaps.keyOf_string_mk u9 (by have h9 := foldS_size t; simp only [maxLen]; omega)) (map_own (List.mem_append_left _ (.tail _ (.tail _ (List.mem_append_right _ (List.mem_append_right _ (.head _))))))) (hz.nm z rfl).f (gM_get (fun t => leastB (namedB t) (stF fs).hs) _) (gM_is (fun t => leastB (namedB t) (stF fs).hs) _)) ?_
 refine Xm ?_
 refine Xe ?_
 refine Xb rfl (v_extract rfl rfl) fun b30 hb30 => ?_
 refine Xa ?_
 refine Xa ?_
 refine Ze (Zt (Zs (Zs (Zr ?_))))
 refine Xm ?_
 refine Xb rfl (v_not rfl) fun b32 hb32 => ?_
 refine Ze (Zt ?_)
 refine w_cond rfl (fun hc32 => ?_) fun hc32 => ?_
 ·simp only [hb32, hb30, Qz, ne_eq] at hc32
  have h1 : leastB (namedB (foldS t)) (stF fs).hs = 0 := by simpa using hc32
  refine Zr ?_
  refine Xm ?_
  refine Xn ?_
  refine Xf _ rfl u91 rfl sz89 ?_
  refine Xl rfl u89 rfl (at_ownL (vs := smC { y with N := some z, al := .map (some z.mA) } (stF fs).ref.length) (.head _) rfl) ?_
  refine Xm ?_
  refine Xv (v := Value.tuple #[Vi ((fun t => leastB (alsoB t) (stF fs).hs) (foldS t)), .bool (decide ((fun t => leastB (alsoB t) (stF fs).hs) (foldS t) ≠ 0))]) rfl (v_lookup2H u89 (Maps.string_keyed u9) zr3 rfl rfl (WideMaps.keyOf_string_mk u9 (by have h9 := foldS_size t; simp only [maxLen]; omega)) (map_own (List.mem_append_left _ (.tail _ (.tail _ (List.mem_append_right _ (List.mem_append_right _ (.tail _ (.head _)))))))) (hz.als z rfl).f (gM_get (fun t => leastB (alsoB t) (stF fs).hs) _) (gM_is (fun t => leastB (alsoB t) (stF fs).hs) _)) ?_
  refine Xm ?_
  refine Xe ?_
  refine Xb rfl (v_extract rfl rfl) fun b41 hb41 => ?_
  refine Xa ?_
  refine Xa ?_
  refine Ze (Zt (Zs (Zr ?_)))
  refine Xm ?_
  refine Xm ?_
  refine Xa ?_
  refine Xa ?_
  refine Ze (Zt (w_ret ?_))
  have hf : findF (stF fs).hs t = (leastB (alsoB (foldS t)) (stF fs).hs, decide (leastB (alsoB (foldS t)) (stF fs).hs ≠ 0)) := by unfold findF findT; rw [if_neg h0, if_pos h1]
  rw [hf]
  exact ret2 rfl rfl rfl (fun w' hm' => ⟨by rw [hb41]; rfl, ⟨{ x with now := some ({ y with N := some z, al := .map (some z.mA) }) }, ⟨⟨hk.row, hk.ok, hk.sz, fun y2 hy2 => by injection hy2 with hy2; subst hy2; exact ⟨(hky.now y rfl).1.named z, hz⟩⟩, rfl⟩, ((hm').perm List.perm_middle).perm (FO_some (x := { x with now := some ({ y with N := some z, al := .map (some z.mA) }) }) rfl L).symm⟩⟩)
 simp only [hb32, hb30, Qz, ne_eq] at hc32
 have h1 : ¬leastB (namedB (foldS t)) (stF fs).hs = 0 := by simpa using hc32
 refine w_skip (Zt (Zs (Zr ?_)))
 refine Xm ?_
 refine Xm ?_
 refine Xa ?_
 refine Xa ?_
 refine Ze (Zt (w_ret ?_))
 have hf : findF (stF fs).hs t = (leastB (namedB (foldS t)) (stF fs).hs, decide (leastB (namedB (foldS t)) (stF fs).hs ≠ 0)) := by unfold findF findT; rw [if_neg h0, if_neg h1]
 rw [hf]
 exact ret2 rfl rfl rfl (fun w' hm' => ⟨by rw [hb30]; rfl, ⟨{ x with now := some ({ y with N := some z, al := .map (some z.mA) }) }, ⟨⟨hk.row, hk.ok, hk.sz, fun y2 hy2 => by injection hy2 with hy2; subst hy2; exact ⟨(hky.now y rfl).1.named z, hz⟩⟩, rfl⟩, ((hm').perm List.perm_middle).perm (FO_some (x := { x with now := some ({ y with N := some z, al := .map (some z.mA) }) }) rfl L).symm⟩⟩)
open Go.RowKit Go.PK
theorem k_Index {ws : List ByteArray} {R : RowS} {t : ByteArray} (w : World) (hr : PK.rowR 9 1 (fun x : ByteArray => [Value.string x]) R ws w) (hlen : ws.length ≤ 100000000) :
  Calls Tryz.prog 85 #[rowV R ws.length, .string t] w fun e w' => e = .returned (Vi (fidx (fun x => decide (t = x)) ws)) ∧ Later w w' := by
 refine enter (vs := [rowV R ws.length, .string t]) Tryz.func85 rfl Tryz.ntmps85 rfl ?_
 refine Zs (Zr ?_)
 refine Xa ?_
 refine Ze (Zt (Zs (Zs (Zr ?_))))
 refine Xm ?_
 refine Xv (v := Vi (ws.length : Nat)) rfl (v_len_slice u38 rfl) ?_
 refine Xm ?_
 refine Ze (Zt (w_block ?_))
 refine w_loop (σ := Nat) (fun k => k ≤ ws.length ∧ ∀ j (h : j < ws.length), j < k → decide (t = ws[j]) = false) (fun k => [(0, rowV R ws.length), (1, Value.string t), (7, Vi (ws.length : Nat)), (8, Vi (k : Nat))]) (fun k => []) (fun k => [(w, fun _ => True)]) (fun k => ws.length - k) (0) (⟨Nat.zero_le _, by intros; omega⟩) (l_start Zu (fun _ h => h)) ?_
 rintro k ⟨hk, hno⟩
 refine w_state ([(0, rowV R ws.length), (1, Value.string t), (7, Vi (ws.length : Nat)), (8, Vi (k : Nat))]) ([]) ([(w, fun _ => True)]) ?_
 refine Zs (Zr ?_)
 refine Xb rfl (v_lss rfl rfl) fun b9 hb9 => ?_
 refine Ze (Zt (Zs ?_))
 refine w_cond rfl (fun hc9 => ?_) fun hc9 => ?_
 ·simp only [hb9, Qz, ne_eq] at hc9
  have hkl : k < ws.length := by omega
  obtain ⟨g, cs, cp, hRg, hcp, hcl⟩ := hr.cells (c := (fun x : ByteArray => [Value.string x])) (m := 1) (fun _ => rfl) (by decide) hkl
  refine w_skip (Zt (Zs (w_block (Zs (Zr ?_)))))
  refine Xm ?_
  refine Xa ?_
  refine Ze (Zt (Zs (Zr ?_)))
  refine Xm ?_
  refine Xm ?_
  refine Xm ?_
  refine Xv rfl (v_indexAddr u38 sz9 (congrArg (fun R => some (rowV R ws.length)) hRg) rfl (hkl) rfl) ?_
  refine Xl rfl u9 rfl (at_ro (.head _) trivial (v := Value.string ws[k]) (by rw [Nat.zero_add]; exact hcl 0 (by decide))) ?_
  refine Xb rfl (v_seql rfl rfl) fun b16 hb16 => ?_
  refine Ze (Zt ?_)
  refine w_cond rfl (fun hc16 => ?_) fun hc16 => ?_
  ·have hb : decide (t = ws[k]) = true := hb16.symm.trans hc16
   refine Zs (Zr ?_)
   refine Xm ?_
   refine Xa ?_
   refine Ze (Zt (w_ret (b_ret (t_ret (t_ret (b_ret (t_ret ?_)))))))
   refine ret1 rfl rfl (fun w' hm => ⟨?_, hm.base (by simp)⟩)
   rw [fidx_at hkl hb hno]
  have hb : decide (t = ws[k]) = false := hb16.symm.trans hc16
  refine w_skip (b_norm (Zt (Zr ?_)))
  refine Xv rfl (v_addi rfl rfl rfl Zo) ?_
  refine Xm ?_
  refine Ze ?_
  exact l_norm (k + 1) ⟨by omega, fun j h hjk => by rcases Nat.lt_succ_iff_lt_or_eq.1 hjk with h2 | rfl; (· exact hno j h h2); exact hb⟩ (by omega) Zu (fun _ h => h)
 simp only [hb9, Qz, ne_eq] at hc9
 refine w_exit ?_
 refine t_exit ?_
 refine t_exit ?_
 refine b_hit ?_
 refine Zt (Zs (Zr ?_))
 refine Xa ?_
 refine Ze (Zt (w_ret ?_))
 refine ret1 rfl rfl (fun w' hm => ⟨?_, hm.base (by simp)⟩)
 rw [fidx_none (fun j h => hno j h (by omega))]
theorem k_Contains {ws : List ByteArray} {R : RowS} {t : ByteArray} (w : World) (hr : PK.rowR 9 1 (fun x : ByteArray => [Value.string x]) R ws w) (hlen : ws.length ≤ 100000000) :
  Calls Tryz.prog 48 #[rowV R ws.length, .string t] w fun e w' => e = .returned (.bool (amg ws t)) ∧ Later w w' := by
 refine enter (vs := [rowV R ws.length, .string t]) Tryz.func48 rfl Tryz.ntmps48 rfl ?_
 refine Zs (Zr ?_)
 refine Xa ?_
 refine Ze (Zt (Zs (Zr ?_)))
 refine Xm ?_
 refine Xm ?_
 refine x_callv rfl rfl rfl Tryz.func85 Zk rfl (fun w1 hw1 => k_Index w1 (hr.later (hw1.base (by simp))) hlen) ?_
 refine Xb rfl (v_geq rfl rfl) fun b8 hb8 => ?_
 refine Xa ?_
 refine Ze (Zt (w_ret ?_))
 refine ret1 rfl rfl (fun w' hm => ⟨?_, hm.base (by simp)⟩)
 rw [hb8, Bool.eq_iff_iff.2 (decide_eq_true_iff.trans (fidx_nn _ ws)), amg_any]
theorem k_IFP {es : List (ByteArray × Int)} {R : RowS} {g : FuncId} {gf : Func} {cap : Array Value} (q : (ByteArray × Int) → Bool) (w : World) (hr : PK.rowR 95 2 splC R es w) (hlen : es.length ≤ 100000000) (hg : Tryz.prog.funcs[g]? = some gf) (hgb : (!(gf.name == "runtime.NumGoroutine") && gf.body.isSome) = true) (hq : ∀ (x : (ByteArray × Int)) w1, Later w w1 → Calls Tryz.prog g (#[.agg (splC x).toArray] ++ cap) w1 fun e w2 => e = .returned (.bool (q x)) ∧ Later w1 w2) :
  Calls Tryz.prog 46 #[rowV R es.length, .func (.func g) #[] cap] w fun e w' => e = .returned (Vi (fidx q es)) ∧ Later w w' := by
 refine enter (vs := [rowV R es.length, .func (.func g) #[] cap]) Tryz.func46 rfl Tryz.ntmps46 rfl ?_
 refine Zs (Zr ?_)
 refine Xa ?_
 refine Ze (Zt (Zs (Zs (Zr ?_))))
 refine Xm ?_
 refine Xv (v := Vi (es.length : Nat)) rfl (v_len_slice u93 rfl) ?_
 refine Xm ?_
 refine Ze (Zt (w_block ?_))
 refine w_loop (σ := Nat) (fun k => k ≤ es.length ∧ ∀ j (h : j < es.length), j < k → q es[j] = false) (fun k => [(0, rowV R es.length), (1, .func (.func g) #[] cap), (7, Vi (es.length : Nat)), (8, Vi (k : Nat))]) (fun k => []) (fun k => [(w, fun _ => True)]) (fun k => es.length - k) (0) (⟨Nat.zero_le _, by intros; omega⟩) (l_start Zu (fun _ h => h)) ?_
 rintro k ⟨hk, hno⟩
 refine w_state ([(0, rowV R es.length), (1, .func (.func g) #[] cap), (7, Vi (es.length : Nat)), (8, Vi (k : Nat))]) ([]) ([(w, fun _ => True)]) ?_
 refine Zs (Zr ?_)
 refine Xb rfl (v_lss rfl rfl) fun b9 hb9 => ?_
 refine Ze (Zt (Zs ?_))
 refine w_cond rfl (fun hc9 => ?_) fun hc9 => ?_
 ·simp only [hb9, Qz, ne_eq] at hc9
  have hkl : k < es.length := by omega
  obtain ⟨g9, cs, cp, hRg, hcp, hcl⟩ := hr.cells (c := splC) (m := 2) (fun _ => rfl) (by decide) hkl
  refine w_skip (Zt (Zs (w_block (Zs (Zr ?_)))))
  refine Xm ?_
  refine Xa ?_
  refine Ze (Zt (Zs (Zr ?_)))
  refine Xm ?_
  refine Xm ?_
  refine Xm ?_
  refine Xv rfl (v_indexAddr u93 sz95 (congrArg (fun R => some (rowV R es.length)) hRg) rfl (hkl) rfl) ?_
  refine Xv rfl (v_loadN (vs := splC es[k]) u95 rfl sz95 rfl (fun j hj => at_ro (.head _) trivial (by rw [Nat.zero_add]; exact (hcl j hj).trans (List.getElem?_eq_getElem hj)))) ?_
  refine x_clb rfl rfl rfl rfl hg hgb rfl (fun w1 hw1 => hq es[k] w1 (hw1.base (by simp))) fun b16 hb16 => ?_
  refine Ze (Zt ?_)
  refine w_cond rfl (fun hc16 => ?_) fun hc16 => ?_
  ·have hb : q es[k] = true := hb16.symm.trans hc16
   refine Zs (Zr ?_)
   refine Xm ?_
   refine Xa ?_
   refine Ze (Zt (w_ret (b_ret (t_ret (t_ret (b_ret (t_ret ?_)))))))
   refine ret1 rfl rfl (fun w' hm => ⟨?_, hm.base (by simp)⟩)
   rw [fidx_at hkl hb hno]
  have hb : q es[k] = false := hb16.symm.trans hc16
  refine w_skip (b_norm (Zt (Zr ?_)))
  refine Xv rfl (v_addi rfl rfl rfl Zo) ?_
  refine Xm ?_
  refine Ze ?_
  exact l_norm (k + 1) ⟨by omega, fun j h hjk => by rcases Nat.lt_succ_iff_lt_or_eq.1 hjk with h2 | rfl; (· exact hno j h h2); exact hb⟩ (by omega) Zu (fun _ h => h)
 simp only [hb9, Qz, ne_eq] at hc9
 refine w_exit ?_
 refine t_exit ?_
 refine t_exit ?_
 refine b_hit ?_
 refine Zt (Zs (Zr ?_))
 refine Xa ?_
 refine Ze (Zt (w_ret ?_))
 refine ret1 rfl rfl (fun w' hm => ⟨?_, hm.base (by simp)⟩)
 rw [fidx_none (fun j h => hno j h (by omega))]
theorem k_rc1 {ws : List ByteArray} {R : RowS} {p : Nat} (x : ByteArray × Int) (w : World) (hp : w.cell? ⟨p, 0, none⟩ = some (rowV R ws.length)) (hr : PK.rowR 9 1 (fun x : ByteArray => [Value.string x]) R ws w) (hlen : ws.length ≤ 100000000) :
  Calls Tryz.prog 47 #[.agg (splC x).toArray, Pt p] w fun e w' => e = .returned (.bool (amg ws x.1)) ∧ Later w w' := by
 refine enter (vs := [.agg (splC x).toArray, Pt p]) Tryz.func47 rfl Tryz.ntmps47 rfl ?_
 refine Zs (Zr ?_)
 refine x_box rfl rfl rfl rfl ?_
 intro p2
 refine Xa ?_
 refine Ze (Zt (Zs (Zr ?_)))
 refine Xl rfl u38 rfl (at_ro (.head _) trivial hp) ?_
 refine Xf 0 rfl u95 rfl sz9 ?_
 refine Xl rfl u9 rfl (at_ownL (vs := splC x) (.head _) rfl) ?_
 refine x_callb rfl rfl rfl Tryz.func48 Zk rfl (fun w1 hw1 => k_Contains w1 (hr.later (hw1.base (by simp))) hlen) fun b7 hb7 => ?_
 refine Xa ?_
 refine Ze (Zt (w_ret ?_))
 refine ret1 rfl rfl (fun w' hm => ⟨?_, hm.base (by simp)⟩)
 rw [hb7]
theorem hm_iss (hs : List HM) (id : Int) : (hmM hs (Vi id)).isSome = (lkM8 hs id).isSome := by
 show ((lkM8 hs id).map _).isSome = _
 rw [Option.isSome_map]
open Go.RowKit Go.PK
theorem HO_spl {hs : List HM} {y : HM} (h : y ∈ hs) {q : Nat × Obj} (hq : q ∈ rowO 95 y.S) : q ∈ HO hs := List.mem_flatMap.2 ⟨y, h, .tail _ (List.mem_append_right _ hq)⟩
set_option maxHeartbeats 1000000 in
theorem k_Resolve {x : FM8} {fs : List FD} {h : Int} {t : ByteArray} {L : List (Nat × Obj)} {ro : List Snap} {w w0 : World} (hk : FOK x fs) (hin : in64 h) (ht : t.size ≤ 4000000) (hro : (w0, fun _ => True) ∈ ro) (hL : LD w0) (hm : Mem w (FO x fs ++ L) ro) :
  Calls Tryz.prog 18 #[Pt x.pf, Vi h, .string t] w fun e w' => e = .returned (.tuple #[Vi (resolveF (stF fs).hs (wordsP t) h).1, .bool (resolveF (stF fs).hs (wordsP t) h).2]) ∧ ∃ x' : FM8, (FOK x' fs ∧ x'.pf = x.pf) ∧ Mem w' (FO x' fs ++ L) ro := by
 refine enter_in hm (vs := [Pt x.pf, Vi h, .string t]) Tryz.func18 rfl Tryz.ntmps18 rfl ?_
 refine Zs (Zr ?_)
 refine Xa ?_
 refine Xa ?_
 refine Ze (Zt (Zs (Zs (Zr ?_))))
 refine Xm ?_
 refine Xb rfl (v_pnil (o := some ⟨x.pf, 0, none⟩) u29 rfl rfl) fun b14 hb14 => ?_
 refine Ze (Zt ?_)
 refine w_cond rfl (fun hc14 => ?_) fun hc14 => ?_
 ·rw [hb14] at hc14; cases hc14
 skip
 refine w_skip (Zt (Zs (Zr ?_)))
 refine Xm ?_
 refine x_turnV (τ := SM) (fst := #[]) (cap := #[]) (fun y => Pt y.ps) (fun y => FOK { x with now := some y } fs) (fun y => FO { x with now := some y } fs ++ L) rfl rfl rfl Tryz.func42 Zk rfl (fun w1 hw1 => by
  simp only [Array.empty_append, Array.append_empty]
  exact k_state (L := L) hk hro hL hw1) ?_
 intro y hky
 refine x_mem (fun _ h => (h.perm (FO_some (x := { x with now := some y }) rfl L)).perm List.perm_middle.symm) ?_
 refine Xa ?_
 refine Ze (Zt (Zs (Zr ?_)))
 refine Xm ?_
 refine Xn ?_
 refine Xf _ rfl u91 rfl sz88 ?_
 refine Xl rfl u88 rfl (at_ownL (vs := smC y (stF fs).ref.length) (.head _) rfl) ?_
 refine Xm ?_
 refine Xv (v := Value.tuple #[.pointer (ptV (lkM8 y.hs h)), .bool (lkM8 y.hs h).isSome]) rfl (v_lookup2H u88 (Maps.int_keyed u3) zr86 rfl rfl (Maps.keyOf_int_mk u3 (wf_in hin)) (map_own (List.mem_append_left _ (.tail _ (.head _)))) (hky.now y rfl).1.mc.f (hm_get y.hs h) (hm_iss y.hs h)) ?_
 refine Xm ?_
 refine Xe ?_
 refine Xb rfl (v_extract rfl rfl) fun b25 hb25 => ?_
 refine Xa ?_
 refine Xa ?_
 refine Ze (Zt (Zs (Zs (Zr ?_))))
 refine Xm ?_
 refine Xb rfl (v_not rfl) fun b27 hb27 => ?_
 refine Ze (Zt ?_)
 refine w_cond rfl (fun hc27 => ?_) fun hc27 => ?_
 ·simp only [hb27, hb25, Qz, ne_eq] at hc27
  have hno : lkM8 y.hs h = none := by simpa using hc27
  have hlk := lkS (hky.now y rfl).1 h
  refine Zs (Zr ?_)
  refine Xa ?_
  refine Xa ?_
  refine Ze (Zt (w_ret (t_ret ?_)))
  rw [hno] at hlk
  have hf : resolveF (stF fs).hs (wordsP t) h = (0, false) := by unfold resolveF; rw [hlk]; rfl
  rw [hf]
  exact ret2 rfl rfl rfl (fun w' hm' => ⟨rfl, ⟨{ x with now := some (y) }, ⟨⟨hk.row, hk.ok, hk.sz, fun y2 hy2 => by injection hy2 with hy2; subst hy2; exact (hky.now y rfl)⟩, rfl⟩, ((hm').perm List.perm_middle).perm (FO_some (x := { x with now := some (y) }) rfl L).symm⟩⟩)
 simp only [hb27, hb25, Qz, ne_eq] at hc27
 obtain ⟨z0, hz0⟩ : ∃ z, lkM8 y.hs h = some z := Option.isSome_iff_exists.1 (by simpa using hc27)
 have hlk := lkS (hky.now y rfl).1 h
 rw [hz0] at hlk ⊢
 obtain ⟨n0, hn0⟩ := (fs_acy' hk.ok).res (wordsP t) hlk
 refine w_skip (Zt (Zs (Zr ?_)))
 refine Xm ?_
 refine x_own (τ := RowS) (fun r => rowV r (wordsP t).length) (fun r => rowOK 1 r (wordsP t).length ((wordsP t).map Value.string)) (fun r => rowO 9 r ++ (SO y (stF fs).ref.length ++ ((Bk x.pf [rowV x.F fs.length, Pt y.ps] 78) :: (rowO 28 x.F ++ L)))) rfl rfl rfl Tryz.func45 Zk rfl (fun w1 hw1 => (k_Words t w1 ht (hL.later (hw1.base hro))).mono fun e w2 ⟨r, h1, h2, h3⟩ => ⟨r, h1, h3.base (by simp), h2, hw1.join2 h3⟩) fun r hr => ?_
 have hrw : rowOK 1 r (wordsP t).length ((wordsP t).flatMap (fun x : ByteArray => [Value.string x])) := by rw [flat1]; exact hr
 have hwl : (wordsP t).length ≤ 4000001 := by have := wordsP_len t; omega
 refine x_alloc rfl rfl rfl zr38 ?_
 intro p11
 refine x_store [] rfl rfl rfl rfl sz38 rfl (by first | decide | simp) ?_
 refine Ze (Zt (w_block ?_))
 refine w_loop (σ := Nat × Int × HM) (fun q => EndsN (stF fs).hs (wordsP t) q.1 q.2.1 (resF (stF fs).hs (wordsP t) h) ∧ lkM8 y.hs q.2.1 = some q.2.2) (fun q => [(1, Vi q.2.1), (8, Pt y.ps), (9, Pt q.2.2.p), (11, Pt p11)]) (fun q => (Bk p11 [rowV r (wordsP t).length] 38) :: (rowO 9 r ++ (SO y (stF fs).ref.length ++ (Bk x.pf [rowV x.F fs.length, Pt y.ps] 78) :: (rowO 28 x.F ++ L)))) (fun q => ro) (fun q => q.1) ((n0, h, z0)) (⟨hn0, hz0⟩) (l_start Zu (fun _ h => h)) ?_
 rintro ⟨n, cur, z⟩ ⟨hE, hz⟩
 refine w_state ([(1, Vi cur), (8, Pt y.ps), (9, Pt z.p), (11, Pt p11)]) ((Bk p11 [rowV r (wordsP t).length] 38) :: (rowO 9 r ++ (SO y (stF fs).ref.length ++ (Bk x.pf [rowV x.F fs.length, Pt y.ps] 78) :: (rowO 28 x.F ++ L)))) (ro) ?_
 dsimp only at hE hz
 have hlz := lkS (hky.now y rfl).1 cur
 rw [hz] at hlz
 obtain ⟨aa, cc, hsp, hzi, _⟩ := lkM8_split hz
 have hzm : z ∈ y.hs := by rw [hsp]; simp
 have hzk := (hky.now y rfl).1.ok z hzm
 have hbo := (fs_bnd' hk.ok).oth z.g (by rw [← (hky.now y rfl).1.hs]; exact List.mem_map_of_mem hzm)
 have hpz := (fs_acy' hk.ok).pos z.g (by rw [← (hky.now y rfl).1.hs]; exact List.mem_map_of_mem hzm)
 refine w_block (Zs (Zr ?_))
 refine Xm ?_
 refine Xn ?_
 refine Xf _ rfl u97 rfl sz93 ?_
 refine Xl rfl u93 rfl (at_ownL (vs := hmC z) (.tail _ (List.mem_append_right _ (List.mem_append_left _ (.tail _ (.tail _ (List.mem_append_left _ (HO_head hzm))))))) rfl) ?_
 refine Xv rfl (v_func rfl) ?_
 refine x_callv rfl rfl rfl Tryz.func46 Zk rfl (fun w1 hw1 => k_IFP (cap := #[Pt p11]) (fun q : ByteArray × Int => amg (wordsP t) q.1) w1 (hw1.rowR hzk.2 (fun q hq => (.tail _ (List.mem_append_right _ (List.mem_append_left _ (.tail _ (.tail _ (List.mem_append_left _ (HO_spl hzm hq))))))))) (by omega) Tryz.func47 Zk (fun x w2 h2 => by
  have h9 := k_rc1 (ws := (wordsP t)) (p := p11) x w2 (at_ownL (vs := [rowV r (wordsP t).length]) (.head _) rfl w2 (hw1.later h2)) ((hw1.later h2).rowR hrw (fun q hq => .tail _ (List.mem_append_left _ hq))) (by omega)
  simpa using h9)) ?_
 refine Xa ?_
 refine Ze (Zt (Zs (w_block (Zs (Zr ?_)))))
 refine Xm ?_
 refine Xn ?_
 refine Xf _ rfl u97 rfl sz3 ?_
 refine Xl rfl u3 rfl (at_ownL (vs := hmC z) (.tail _ (List.mem_append_right _ (List.mem_append_left _ (.tail _ (.tail _ (List.mem_append_left _ (HO_head hzm))))))) rfl) ?_
 refine Xb rfl (v_gtr rfl rfl) fun b42 hb42 => ?_
 refine Xa ?_
 refine Ze (Zt ?_)
 refine w_cond rfl (fun hc37 => ?_) fun hc37 => ?_
 ·simp only [hb42, Qz, ne_eq] at hc37
  have hst : stepR (wordsP t) z.g = z.g.into := by unfold stepR; rw [if_pos hc37]
  obtain ⟨n2, rfl, hE2⟩ := hE.next hlz (by rw [hst]; omega)
  rw [hst] at hE2
  obtain ⟨g2, hg2⟩ := hE2.look
  have hl2 := lkS (hky.now y rfl).1 z.g.into
  obtain ⟨z2, hz2⟩ : ∃ z2, lkM8 y.hs z.g.into = some z2 := by cases hq : lkM8 y.hs z.g.into with | some z2 => exact ⟨z2, rfl⟩ | none => (rw [hq, hg2] at hl2; cases hl2)
  obtain ⟨a2, c2, hs2, hi2, _⟩ := lkM8_split hz2
  have hin2 : in64 z.g.into := by rw [← hi2]; exact (hky.now y rfl).1.ids z2 (by rw [hs2]; simp)
  refine Zr ?_
  refine Xm ?_
  refine Xn ?_
  refine Xf _ rfl u97 rfl sz3 ?_
  refine Xl rfl u3 rfl (at_ownL (vs := hmC z) (.tail _ (List.mem_append_right _ (List.mem_append_left _ (.tail _ (.tail _ (List.mem_append_left _ (HO_head hzm))))))) rfl) ?_
  refine Xa ?_
  refine Ze (b_norm (Zt (Zr ?_)))
  refine Xm ?_
  refine Xn ?_
  refine Xf _ rfl u91 rfl sz88 ?_
  refine Xl rfl u88 rfl (at_ownL (vs := smC y (stF fs).ref.length) (.tail _ (List.mem_append_right _ (.head _))) rfl) ?_
  refine Xm ?_
  refine Xv (v := Pt z2.p) rfl (v_lookupH u88 (Maps.int_keyed u3) zr86 rfl rfl (Maps.keyOf_int_mk u3 (wf_in hin2)) (map_own (.tail _ (List.mem_append_right _ (List.mem_append_left _ (.tail _ (.head _)))))) (hky.now y rfl).1.mc.f (by rw [hm_get, hz2]; rfl)) ?_
  refine Xa ?_
  refine Ze (b_norm ?_)
  exact l_norm (n2, z.g.into, z2) ⟨hE2, hz2⟩ (Nat.lt_succ_self _) Zu (fun _ h => h)
 simp only [hb42, Qz, ne_eq] at hc37
 refine Zs (Zr ?_)
 refine Xm ?_
 refine Xb rfl (v_geq rfl rfl) fun b49 hb49 => ?_
 refine Xa ?_
 refine Ze (Zt ?_)
 refine w_cond rfl (fun hc47 => ?_) fun hc47 => ?_
 ·simp only [hb49, Qz, ne_eq] at hc47
  obtain ⟨i, hi, hfi⟩ := fidx_lt hc47
  have hst : stepR (wordsP t) z.g = z.g.spl[i].2 := by unfold stepR; rw [if_neg hc37, spl_yes hi hfi]
  have hsp1 := hpz.2.2 _ (List.getElem_mem hi)
  obtain ⟨n2, rfl, hE2⟩ := hE.next hlz (by rw [hst]; omega)
  rw [hst] at hE2
  obtain ⟨g2, hg2⟩ := hE2.look
  have hl2 := lkS (hky.now y rfl).1 (z.g.spl[i].2)
  obtain ⟨z2, hz2⟩ : ∃ z2, lkM8 y.hs (z.g.spl[i].2) = some z2 := by cases hq : lkM8 y.hs (z.g.spl[i].2) with | some z2 => exact ⟨z2, rfl⟩ | none => (rw [hq, hg2] at hl2; cases hl2)
  obtain ⟨a2, c2, hs2, hi2, _⟩ := lkM8_split hz2
  have hin2 : in64 (z.g.spl[i].2) := by rw [← hi2]; exact (hky.now y rfl).1.ids z2 (by rw [hs2]; simp)
  obtain ⟨g5, cs5, cp5, hS5, hcp5, hcl5⟩ := row_at (c := splC) (m := 2) (fun _ => rfl) (by decide) hzk.2 hi
  rw [hfi]
  refine Zr ?_
  refine Xm ?_
  refine Xn ?_
  refine Xf _ rfl u97 rfl sz93 ?_
  refine Xl rfl u93 rfl (at_ownL (vs := hmC z) (.tail _ (List.mem_append_right _ (List.mem_append_left _ (.tail _ (.tail _ (List.mem_append_left _ (HO_head hzm))))))) rfl) ?_
  refine Xm ?_
  refine Xv rfl (v_indexAddr u93 sz95 (congrArg (fun R => some (rowV R z.g.spl.length)) hS5) rfl (hi) rfl) ?_
  refine Xf _ rfl u95 rfl sz3 ?_
  refine Xl rfl u3 rfl (at_ownL (vs := cs5) (v := Vi z.g.spl[i].2) (.tail _ (List.mem_append_right _ (List.mem_append_left _ (.tail _ (.tail _ (List.mem_append_left _ (HO_spl hzm (by rw [hS5]; exact .head _)))))))) (by show cs5[0 + i * 2 + 1]? = _; rw [Nat.zero_add]; exact hcl5 1 (by decide))) ?_
  refine Xa ?_
  refine Ze (b_norm (Zt (Zr ?_)))
  refine Xm ?_
  refine Xn ?_
  refine Xf _ rfl u91 rfl sz88 ?_
  refine Xl rfl u88 rfl (at_ownL (vs := smC y (stF fs).ref.length) (.tail _ (List.mem_append_right _ (.head _))) rfl) ?_
  refine Xm ?_
  refine Xv (v := Pt z2.p) rfl (v_lookupH u88 (Maps.int_keyed u3) zr86 rfl rfl (Maps.keyOf_int_mk u3 (wf_in hin2)) (map_own (.tail _ (List.mem_append_right _ (List.mem_append_left _ (.tail _ (.head _)))))) (hky.now y rfl).1.mc.f (by rw [hm_get, hz2]; rfl)) ?_
  refine Xa ?_
  refine Ze (b_norm ?_)
  exact l_norm (n2, z.g.spl[i].2, z2) ⟨hE2, hz2⟩ (Nat.lt_succ_self _) Zu (fun _ h => h)
 simp only [hb49, Qz, ne_eq] at hc47
 have hst : stepR (wordsP t) z.g = 0 := by unfold stepR; rw [if_neg hc37]; exact spl_no (by omega)
 have hfin := hE.fin hlz hst
 refine Zs (Zr ?_)
 refine Xm ?_
 refine Xa ?_
 refine Xa ?_
 refine Ze (Zt (w_ret (b_ret (t_ret (b_ret (t_ret (b_ret ?_)))))))
 have hf : resolveF (stF fs).hs (wordsP t) h = (cur, true) := by unfold resolveF; rw [hlk]; show (resF _ _ _, true) = _; rw [hfin]
 rw [hf]
 exact ret2 rfl rfl rfl (fun w' hm' => by
  have hm2 := hm'.less ((List.sublist_append_right _ _).trans (List.sublist_cons_self _ _)) (fun _ h => h)
  exact ⟨rfl, ⟨{ x with now := some (y) }, ⟨⟨hk.row, hk.ok, hk.sz, fun y2 hy2 => by injection hy2 with hy2; subst hy2; exact (hky.now y rfl)⟩, rfl⟩, (hm2.perm List.perm_middle).perm (FO_some (x := { x with now := some (y) }) rfl L).symm⟩⟩)
open Go.RowKit Go.PK
theorem k_sub1 {c : UInt8} {p : Nat} (s : Sb) (w : World) (hp : w.cell? ⟨p, 0, none⟩ = some (.int .u8 (c.toNat : Nat))) :
  Calls Tryz.prog 92 #[.agg (sbC s).toArray, Pt p] w fun e w' => e = .returned (.bool (decide (s.code = c))) ∧ Later w w' := by
 refine enter (vs := [.agg (sbC s).toArray, Pt p]) Tryz.func92 rfl Tryz.ntmps92 rfl ?_
 refine Zs (Zr ?_)
 refine x_box rfl rfl rfl rfl ?_
 intro p2
 refine Xa ?_
 refine Ze (Zt (Zs (Zr ?_)))
 refine Xf 0 rfl u67 rfl sz5 ?_
 refine Xl rfl u5 rfl (at_ownL (vs := sbC s) (.head _) rfl) ?_
 refine Xl rfl u5 rfl (at_ro (.head _) trivial hp) ?_
 refine Xb rfl (v_eql rfl rfl) fun b7 hb7 => ?_
 refine Xa ?_
 refine Ze (Zt (w_ret ?_))
 refine ret1 rfl rfl (fun w' hm => ⟨?_, hm.base (by simp)⟩)
 rw [hb7, decide_eq_decide.2 code_eq]
theorem k_IFR {D : Nat → Prop} {v : Value} {es : List Sb} {g : FuncId} {gf : Func} {cap : Array Value} (q : Sb → Bool) (w : World) (hxs : sliceRd tySb D w v es) (hg : Tryz.prog.funcs[g]? = some gf) (hgb : (!(gf.name == "runtime.NumGoroutine") && gf.body.isSome) = true) (hq : ∀ (x : Sb) w1, Later w w1 → Calls Tryz.prog g (#[.agg (sbC x).toArray] ++ cap) w1 fun e w2 => e = .returned (.bool (q x)) ∧ Later w1 w2) :
  Calls Tryz.prog 91 #[v, .func (.func g) #[] cap] w fun e w' => e = .returned (Vi (fidx q es)) ∧ Later w w' := by
 obtain ⟨A, cp, rfl, hlc, hmx, hA⟩ := id hxs
 refine enter (vs := [Value.slice A es.length cp, .func (.func g) #[] cap]) Tryz.func91 rfl Tryz.ntmps91 rfl ?_
 refine Zs (Zr ?_)
 refine Xa ?_
 refine Ze (Zt (Zs (Zs (Zr ?_))))
 refine Xm ?_
 refine Xv rfl (v_len_slice u60 rfl) ?_
 refine Xm ?_
 refine Ze (Zt (w_block ?_))
 refine w_loop (σ := Nat) (fun k => k ≤ es.length ∧ ∀ j (h : j < es.length), j < k → q es[j] = false) (fun k => [(0, Value.slice A es.length cp), (1, .func (.func g) #[] cap), (7, Vi (es.length : Nat)), (8, Vi (k : Nat))]) (fun k => []) (fun k => [(w, fun _ => True)]) (fun k => es.length - k) (0) (⟨Nat.zero_le _, by intros; omega⟩) (l_start Zu (fun _ h => h)) ?_
 rintro k ⟨hk, hno⟩
 refine w_state ([(0, Value.slice A es.length cp), (1, .func (.func g) #[] cap), (7, Vi (es.length : Nat)), (8, Vi (k : Nat))]) ([]) ([(w, fun _ => True)]) ?_
 refine Zs (Zr ?_)
 refine Xb rfl (v_lss rfl rfl) fun b9 hb9 => ?_
 refine Ze (Zt (Zs ?_))
 refine w_cond rfl (fun hc9 => ?_) fun hc9 => ?_
 ·simp only [hb9, Qz, ne_eq] at hc9
  have hkl : k < es.length := by omega
  obtain ⟨b0, o0, hA0, hD0, hc0⟩ := sb8_at hxs hkl
  refine w_skip (Zt (Zs (w_block (Zs (Zr ?_)))))
  refine Xm ?_
  refine Xa ?_
  refine Ze (Zt (Zs (Zr ?_)))
  refine Xm ?_
  refine Xm ?_
  refine Xm ?_
  refine Xv rfl (v_indexAddr u60 sz67 (congrArg (fun A => some (Value.slice A es.length cp)) hA0) rfl (hkl) rfl) ?_
  refine Xv rfl (v_loadN (vs := sbC es[k]) u67 rfl sz67 rfl (fun j hj => at_ro (.head _) trivial (hc0 j hj))) ?_
  refine x_clb rfl rfl rfl rfl hg hgb rfl (fun w1 hw1 => hq es[k] w1 (hw1.base (by simp))) fun b16 hb16 => ?_
  refine Ze (Zt ?_)
  refine w_cond rfl (fun hc16 => ?_) fun hc16 => ?_
  ·have hb : q es[k] = true := hb16.symm.trans hc16
   refine Zs (Zr ?_)
   refine Xm ?_
   refine Xa ?_
   refine Ze (Zt (w_ret (b_ret (t_ret (t_ret (b_ret (t_ret ?_)))))))
   refine ret1 rfl rfl (fun w' hm => ⟨?_, hm.base (by simp)⟩)
   rw [fidx_at hkl hb hno]
  have hb : q es[k] = false := hb16.symm.trans hc16
  refine w_skip (b_norm (Zt (Zr ?_)))
  refine Xv rfl (v_addi rfl rfl rfl Zo) ?_
  refine Xm ?_
  refine Ze ?_
  exact l_norm (k + 1) ⟨by omega, fun j h hjk => by rcases Nat.lt_succ_iff_lt_or_eq.1 hjk with h2 | rfl; (· exact hno j h h2); exact hb⟩ (by omega) Zu (fun _ h => h)
 simp only [hb9, Qz, ne_eq] at hc9
 refine w_exit ?_
 refine t_exit ?_
 refine t_exit ?_
 refine b_hit ?_
 refine Zt (Zs (Zr ?_))
 refine Xa ?_
 refine Ze (Zt (w_ret ?_))
 refine ret1 rfl rfl (fun w' hm => ⟨?_, hm.base (by simp)⟩)
 rw [fidx_none (fun j h => hno j h (by omega))]
theorem k_sub {D : Nat → Prop} {v : Value} (f : Fl) {l : List Sb} (c : UInt8) (w : World) (hxs : sliceRd tySb D w v l) :
  Calls Tryz.prog 63 #[.agg (flV8 f v).toArray, .int .u8 (c.toNat : Nat)] w fun e w' => e = .returned (Vi (subI c l)) ∧ Later w w' := by
 refine enter (vs := [.agg (flV8 f v).toArray, .int .u8 (c.toNat : Nat)]) Tryz.func63 rfl Tryz.ntmps63 rfl ?_
 refine Zs (Zr ?_)
 refine x_box rfl rfl rfl rfl ?_
 intro p2
 refine x_box rfl rfl rfl rfl ?_
 intro p3
 refine Xa ?_
 refine Ze (Zt (Zs (Zr ?_)))
 refine Xf 3 rfl u62 rfl sz60 ?_
 refine Xl rfl u60 rfl (at_ownL (vs := flV8 f v) (.tail _ (.head _)) rfl) ?_
 refine Xv rfl (v_func rfl) ?_
 refine x_callv rfl rfl rfl Tryz.func91 Zk rfl (fun w1 hw1 => k_IFR (cap := #[Pt p3]) (fun s : Sb => decide (s.code = c)) w1 (hxs.keep (Kept.later (hw1.base (by simp)))) Tryz.func92 Zk (fun s w2 h2 => by
  have h9 := k_sub1 (c := c) (p := p3) s w2 (at_ownL (vs := [Value.int .u8 (c.toNat : Nat)]) (.head _) rfl w2 (hw1.later h2))
  simpa using h9)) ?_
 refine Xa ?_
 refine Ze (Zt (w_ret ?_))
 refine ret1 rfl rfl (fun w' hm => ⟨?_, hm.base (by simp)⟩)
 rfl
set_option maxHeartbeats 1000000 in
theorem k_title {D : Nat → Prop} {v kd lv : Value} {fs : List Fl} (w : World) (hxs : sliceRd tyFl D w v fs) (hsm : ∀ f ∈ fs, smFl f) :
  Calls Tryz.prog 58 #[.agg #[kd, lv, v]] w fun e w' => e = .returned (.string (titF fs)) ∧ Later w w' := by
 obtain ⟨A, cp, rfl, hlc, hmx, hA⟩ := id hxs
 refine enter (vs := [.agg #[kd, lv, Value.slice A fs.length cp]]) Tryz.func58 rfl Tryz.ntmps58 rfl ?_
 refine Zs (Zr ?_)
 refine x_box rfl rfl rfl rfl ?_
 intro p1
 refine Xa ?_
 refine Ze (Zt (Zs (Zr ?_)))
 refine Xa ?_
 refine Ze (Zt (Zs (Zs (Zr ?_))))
 refine Xf 2 rfl u51 rfl sz49 ?_
 refine Xl rfl u49 rfl (at_ownL (vs := [kd, lv, Value.slice A fs.length cp]) (.head _) rfl) ?_
 refine Xv (v := Vi (fs.length : Nat)) rfl (v_len_slice u49 rfl) ?_
 refine Xm ?_
 refine Ze (Zt (w_block ?_))
 refine w_loop (σ := Nat) (fun k => k ≤ fs.length ∧ ∀ j (hj : j < fs.length), j < k → fs[j].tag ≠ tagT) (fun k => [(1, Pt p1), (3, Value.string ⟨#[]⟩), (9, Value.slice A fs.length cp), (10, Vi (fs.length : Nat)), (11, Vi (k : Nat))]) (fun k => [(Bk p1 [kd, lv, Value.slice A fs.length cp] 51)]) (fun k => [(w, fun _ => True)]) (fun k => fs.length - k) (0) (⟨Nat.zero_le _, by intros; omega⟩) (l_start Zu (fun _ h => h)) ?_
 rintro k ⟨hk, hno⟩
 refine w_state ([(1, Pt p1), (3, Value.string ⟨#[]⟩), (9, Value.slice A fs.length cp), (10, Vi (fs.length : Nat)), (11, Vi (k : Nat))]) ([(Bk p1 [kd, lv, Value.slice A fs.length cp] 51)]) ([(w, fun _ => True)]) ?_
 refine Zs (Zr ?_)
 refine Xb rfl (v_lss rfl rfl) fun b12 hb12 => ?_
 refine Ze (Zt (Zs ?_))
 refine w_cond rfl (fun hc12 => ?_) fun hc12 => ?_
 ·simp only [hb12, Qz, ne_eq] at hc12
  have hkl : k < fs.length := by omega
  obtain ⟨b0, o0, v5, hA0, hD0, hc0, hs0, hok0⟩ := fl8_at hxs hkl
  obtain ⟨A5, c5, rfl, hlc5, hmx5, hA5⟩ := id hs0
  obtain ⟨hsl, hst0⟩ := hsm _ (List.getElem_mem hkl)
  refine w_skip (Zt (Zs (w_block (Zs (Zr ?_)))))
  refine Xv rfl (v_indexAddr u49 sz62 (congrArg (fun A => some (Value.slice A fs.length cp)) hA0) rfl (hkl) rfl) ?_
  refine Xv rfl (v_loadN (vs := flV8 fs[k] (Value.slice A5 fs[k].subs.length c5)) u62 rfl sz62 rfl (fun j hj => at_ro (.head _) trivial (hc0 j hj))) ?_
  refine x_alloc rfl rfl rfl zr62 ?_
  intro p5
  refine x_store0 [] rfl rfl rfl rfl sz62 rfl rfl ?_
  refine Ze (Zt (Zs (Zs (Zr ?_))))
  refine Xf 0 rfl u62 rfl sz9 ?_
  refine Xl rfl u9 rfl (at_ownL (vs := flV8 fs[k] (Value.slice A5 fs[k].subs.length c5)) (.head _) rfl) ?_
  refine Xb rfl (v_sneq rfl rfl) fun b17 hb17 => ?_
  refine Ze (Zt ?_)
  refine w_cond rfl (fun hc17 => ?_) fun hc17 => ?_
  ·simp only [hb17, Qz, ne_eq] at hc17
   have htg : fs[k].tag ≠ tagT := hc17
   refine w_exit ?_
   refine t_exit ?_
   refine b_hit ?_
   refine Zt (Zr ?_)
   refine Xv rfl (v_addi rfl rfl rfl Zo) ?_
   refine Xm ?_
   refine Ze ?_
   exact l_norm (k + 1) ⟨hkl, fun j h hjk => by rcases Nat.lt_succ_iff_lt_or_eq.1 hjk with h2 | rfl; (· exact hno j h h2); exact htg⟩ (by omega) Zu (fun _ h => h.less (List.sublist_cons_self _ _) (fun _ h => h))
  simp only [hb17, Qz, ne_eq] at hc17
  have htg : fs[k].tag = tagT := hc17
  have htf := titF_at hkl htg hno
  refine w_skip (Zt (Zs (Zs (Zr ?_))))
  refine Xf 3 rfl u62 rfl sz60 ?_
  refine Xl rfl u60 rfl (at_ownL (vs := flV8 fs[k] (Value.slice A5 fs[k].subs.length c5)) (.head _) rfl) ?_
  refine Xv (v := Vi (fs[k].subs.length : Nat)) rfl (v_len_slice u60 rfl) ?_
  refine Xm ?_
  refine Ze (Zt (w_block ?_))
  refine w_loop (σ := Nat) (fun j => j ≤ fs[k].subs.length) (fun j => [(3, Value.string (titS (fs[k].subs.take j))), (19, Value.slice A5 fs[k].subs.length c5), (20, Vi (fs[k].subs.length : Nat)), (21, Vi (j : Nat))]) (fun j => []) (fun j => [(w, fun _ => True)]) (fun j => fs[k].subs.length - j) (0) (Nat.zero_le _) (l_start Zu (fun _ h => h.less (List.nil_sublist _) (fun _ h => h))) ?_
  rintro j hj
  refine w_state ([(3, Value.string (titS (fs[k].subs.take j))), (19, Value.slice A5 fs[k].subs.length c5), (20, Vi (fs[k].subs.length : Nat)), (21, Vi (j : Nat))]) ([]) ([(w, fun _ => True)]) ?_
  refine Zs (Zr ?_)
  refine Xb rfl (v_lss rfl rfl) fun b22 hb22 => ?_
  refine Ze (Zt (Zs ?_))
  refine w_cond rfl (fun hc22 => ?_) fun hc22 => ?_
  ·simp only [hb22, Qz, ne_eq] at hc22
   have hjl : j < fs[k].subs.length := by omega
   obtain ⟨b1, o1, hA1, hD1, hc1⟩ := sb8_at hs0 hjl
   have hz1 := titS_size hst0 j (by omega)
   have hz2 := hst0 _ (List.getElem_mem hjl)
   have hz3 : (spcB ++ fs[k].subs[j].text).size = 1 + fs[k].subs[j].text.size := by rw [ByteArray.size_append]; rfl
   refine w_skip (Zt (Zs (w_block (Zs (Zr ?_)))))
   refine Xv rfl (v_indexAddr u60 sz67 (congrArg (fun A => some (Value.slice A fs[k].subs.length c5)) hA1) rfl (hjl) rfl) ?_
   refine Xv rfl (v_loadN (vs := sbC fs[k].subs[j]) u67 rfl sz67 rfl (fun j hj => at_ro (.head _) trivial (hc1 j hj))) ?_
   refine x_alloc rfl rfl rfl zr67 ?_
   intro p7
   refine x_store0 [] rfl rfl rfl rfl sz67 rfl rfl ?_
   refine Ze (Zt (Zs (Zr ?_)))
   refine Xf 0 rfl u67 rfl sz5 ?_
   refine Xl rfl u5 rfl (at_ownL (vs := sbC fs[k].subs[j]) (.head _) rfl) ?_
   refine Xb rfl (v_eql rfl rfl) fun b27 hb27 => ?_
   refine Xm ?_
   refine Xi rfl rfl rfl (fun hg0 => by subst hg0; (try simp only [Qy]); exact v_fieldAddr (off' := 0) u67 rfl sz5 (by decide) rfl rfl) ?_
   refine Xi rfl rfl rfl (fun hg0 => by subst hg0; (try simp only [Qy]); exact v_load u5 rfl rfl (at_ownL (vs := sbC fs[k].subs[j]) (.head _) rfl)) ?_
   refine Xj rfl rfl rfl (fun hg0 => by subst hg0; (try simp only [Qy]); exact v_eql rfl rfl) fun b31 hb31 => ?_
   refine Xb rfl (v_or rfl rfl) fun b32 hb32 => ?_
   refine Ze (Zt ?_)
   refine w_cond rfl (fun hc32 => ?_) fun hc32 => ?_
   ·simp only [hb32, hb31, hb27, Qz, ne_eq] at hc32
    have hst : titS (fs[k].subs.take (j + 1)) = titS (fs[k].subs.take j) ++ (spcB ++ fs[k].subs[j].text) := by rw [titS_step hjl, if_pos (by simpa [← code_eq] using hc32)]
    refine Zr ?_
    refine Xm ?_
    refine Xf 1 rfl u67 rfl sz9 ?_
    refine Xl rfl u9 rfl (at_ownL (vs := sbC fs[k].subs[j]) (.head _) rfl) ?_
    refine Xv rfl (v_sadd rfl rfl (by rw [show (⟨#[32]⟩ : ByteArray).size = 1 from rfl]; omega)) ?_
    refine Xv rfl (v_sadd rfl rfl (by rw [show (⟨#[32]⟩ : ByteArray) ++ fs[k].subs[j].text = spcB ++ fs[k].subs[j].text from rfl, hz3]; omega)) ?_
    refine Xa ?_
    refine Ze (b_norm (Zt (Zr ?_)))
    refine Xv rfl (v_addi rfl rfl rfl Zo) ?_
    refine Xm ?_
    refine Ze ?_
    exact l_norm (j + 1) hjl (by omega) (by rw [hst]; exact Zu) (fun _ h => h.less (List.sublist_cons_self _ _) (fun _ h => h))
   simp only [hb32, hb31, hb27, Qz, ne_eq] at hc32
   have hst : titS (fs[k].subs.take (j + 1)) = titS (fs[k].subs.take j) := by rw [titS_step hjl, if_neg (by simpa [← code_eq] using hc32)]
   refine w_skip (b_norm (Zt (Zr ?_)))
   refine Xv rfl (v_addi rfl rfl rfl Zo) ?_
   refine Xm ?_
   refine Ze ?_
   exact l_norm (j + 1) hjl (by omega) (by rw [hst]; exact Zu) (fun _ h => h.less (List.sublist_cons_self _ _) (fun _ h => h))
  simp only [hb22, Qz, ne_eq] at hc22
  obtain rfl : j = fs[k].subs.length := by omega
  refine w_exit ?_
  refine t_exit ?_
  refine t_exit ?_
  refine b_hit ?_
  refine Zt ?_
  refine w_exit ?_
  refine b_miss rfl ?_
  refine t_exit ?_
  refine t_exit ?_
  refine b_hit ?_
  refine Zt (Zs (Zr ?_))
  refine Xm ?_
  refine Xa ?_
  refine Ze (Zt (w_ret ?_))
  refine ret1 rfl rfl (fun w' hm => ⟨?_, hm.base (by simp)⟩)
  rw [htf, List.take_length]
 simp only [hb12, Qz, ne_eq] at hc12
 obtain rfl : k = fs.length := by omega
 refine w_exit ?_
 refine t_exit ?_
 refine t_exit ?_
 refine b_hit ?_
 refine Zt (Zs (Zr ?_))
 refine Xm ?_
 refine Xa ?_
 refine Ze (Zt (w_ret ?_))
 refine ret1 rfl rfl (fun w' hm => ⟨?_, hm.base (by simp)⟩)
 rw [titF_no (fun j h => hno j h h)]
open Go.RowKit Go.PK
theorem later_bw (w : World) (e : TypeId) (t : ByteArray) : Later w (Lib.bytesWorld w e t) := ⟨rfl, rfl, rfl, by rw [Lib.bytesWorld_size]; omega, fun j hj => Lib.bytesWorld_at_old w e t j hj⟩
theorem k_Atoi (t : ByteArray) (w : World) (ht : t.size ≤ 18) (hL : LD w) : Calls Tryz.prog 89 #[.string t] w fun e w' => ∃ v, e = .returned v ∧ Later w w' ∧ ∃ E, v = .tuple #[Vi (atoS8 t), E] ∧ isIface E (!atoB8 t) := by
 cases h : Lib.atoi t.data.toList with
 | none =>
  obtain ⟨tp, p, hv⟩ := hL.syn
  refine (Tryz.strconv_Atoi_err_var t ht h tp p w hv).mono fun e w' ⟨N, h1, _, _, h4⟩ => ⟨_, h1, ⟨h4.os, h4.tape, h4.output, h4.size, h4.block⟩, _, by unfold atoS8; rw [h], .inr ⟨⟨_, _, rfl⟩, by unfold atoB8; rw [h]; rfl⟩⟩
 | some n => exact (Tryz.strconv_Atoi t n ht h w).mono fun e w' ⟨h1, q, h2⟩ => ⟨_, h1, by rw [h2]; exact later_bw w _ q, _, by unfold atoS8; rw [h], .inl ⟨rfl, by unfold atoB8; rw [h]; rfl⟩⟩
theorem k_Itoa (n : Int) (w : World) (hn : in64 n) (hL : LD w) : Calls Tryz.prog 61 #[Vi n] w fun e w' => e = .returned (.string (itoaS n)) ∧ Later w w' :=
 (Tryz.strconv_Itoa n hn.1 hn.2 w hL.tab).mono fun e w' ⟨h1, k, os, h2⟩ => ⟨h1, by rw [h2]; exact later_grow w k os⟩
theorem atoS8_in {t : ByteArray} (h : t.size ≤ 18) : in64 (atoS8 t) := by
 unfold atoS8
 cases hq : Lib.atoi t.data.toList with
 | none => dsimp only; unfold in64; omega
 | some v =>
  have hl : t.data.toList.length ≤ 18 := by rw [Array.length_toList]; exact h
  have h1 : Lib.atoiAll t.data.toList = .ok v := by rw [Lib.atoiAll_short _ hl, hq]; rfl
  exact Lib.atoiAll_bounds h1
theorem three (b : Bool) (p : Prop) [Decidable p] : b = false ∨ (b = true ∧ ¬p) ∨ (b = true ∧ p) := by cases b <;> by_cases h : p <;> simp [h]
def numO (hs : List HG) (l : List Sb) : Option Int := if 0 ≤ subI 48 l then numH hs (txtI l (subI 48 l)) else none
theorem hdF_some {hs : List HG} {l : List Sb} {id : Int} (h : numO hs l = some id) : hdF hs l = (id, true) := by
 unfold hdF
 unfold numO at h
 rw [h]
theorem hdF_none {hs : List HG} {l : List Sb} (h : numO hs l = none) : hdF hs l = if 0 ≤ subI 97 l then findF hs (txtI l (subI 97 l)) else (0, false) := by
 unfold hdF
 unfold numO at h
 rw [h]
theorem numO_at {hs : List HG} {l : List Sb} (ha : Acy hs) (hid : ∀ h ∈ hs, h.id < 1000000000000000000) {i : Nat} (hi : i < l.length) (hsi : subI 48 l = (i : Nat)) (id : Int) : numO hs l = some id ↔ atoB8 l[i].text = true ∧ atoS8 l[i].text = id ∧ itoaS id = l[i].text ∧ (lkH hs id).isSome = true := by
 unfold numO
 rw [if_pos (by omega), hsi, txtI_at hi]
 exact numH_iff ha.ids (fun h hh => ⟨(ha.pos h hh).1, hid h hh⟩) id
theorem numO_not {hs : List HG} {l : List Sb} (ha : Acy hs) (hid : ∀ h ∈ hs, h.id < 1000000000000000000) {i : Nat} (hi : i < l.length) (hsi : subI 48 l = (i : Nat)) (hn : ¬(atoB8 l[i].text = true ∧ itoaS (atoS8 l[i].text) = l[i].text ∧ (lkH hs (atoS8 l[i].text)).isSome = true)) : numO hs l = none := by
 cases hq : numO hs l with
 | none => rfl
 | some id =>
  obtain ⟨h1, h2, h3, h4⟩ := (numO_at ha hid hi hsi id).1 hq
  subst h2
  exact absurd ⟨h1, h3, h4⟩ hn
set_option maxHeartbeats 2000000 in
theorem k_heading {x : FM8} {fs : List FD} {f : Fl} {v : Value} {D : Nat → Prop} {ws : World} {L : List (Nat × Obj)} {ro : List Snap} {w w0 : World} (hk : FOK x fs) (hid : ∀ h ∈ (stF fs).hs, h.id < 1000000000000000000) (hsn : (ws, D) ∈ ro) (hxs : sliceRd tySb D ws v f.subs) (hsm : smFl f) (h18 : ∀ s ∈ f.subs, s.code = 48 → s.text.size ≤ 18) (hro : (w0, fun _ => True) ∈ ro) (hL : LD w0) (hm : Mem w (FO x fs ++ L) ro) :
  Calls Tryz.prog 60 #[Pt x.pf, .agg (flV8 f v).toArray] w fun e w' => e = .returned (.tuple #[Vi (hdF (stF fs).hs f.subs).1, .bool (hdF (stF fs).hs f.subs).2]) ∧ ∃ x' : FM8, (FOK x' fs ∧ x'.pf = x.pf) ∧ Mem w' (FO x' fs ++ L) ro := by
 obtain ⟨A, cp, rfl, hlc, hmx, hA⟩ := id hxs
 have hrd : ∀ w1 own1, Mem w1 own1 ro → sliceRd tySb D w1 (Value.slice A f.subs.length cp) f.subs := fun w1 own1 hw1 => hxs.keep (Kept.snap hw1 hsn (fun k h _ => h))
 refine enter_in hm (vs := [Pt x.pf, .agg (flV8 f (Value.slice A f.subs.length cp)).toArray]) Tryz.func60 rfl Tryz.ntmps60 rfl ?_
 refine Zs (Zr ?_)
 refine x_box rfl rfl rfl rfl ?_
 intro p3
 refine Xa ?_
 refine Xa ?_
 refine Ze (Zt ?_)
 refine w_seq_cut (σ := FM8) (fun z => FOK z fs ∧ z.pf = x.pf ∧ numO (stF fs).hs f.subs = none) (fun z => [(0, Pt x.pf), (3, Pt p3)]) (fun z => (Bk p3 (flV8 f (Value.slice A f.subs.length cp)) 62) :: (FO z fs ++ L)) (fun z => ro) ?_ ?_
 ·refine w_seq ?_
  refine Zr ?_
  refine Xv rfl (v_load_blk u62 rfl rfl (.head _) (by exact sz62)) ?_
  refine x_callv rfl rfl rfl Tryz.func63 Zk rfl (fun w1 hw1 => k_sub f 48 w1 (hrd _ _ hw1)) ?_
  refine Xa ?_
  refine Ze (Zt (Zs (Zr ?_)))
  refine Xm ?_
  refine Xb rfl (v_geq rfl rfl) fun b13 hb13 => ?_
  refine Ze (Zt ?_)
  refine w_cond rfl (fun hc13 => ?_) fun hc13 => ?_
  ·simp only [hb13, Qz, ne_eq] at hc13
   obtain ⟨i, hi, hsi, htx, hcd⟩ := subI_at hc13
   have hsz18 := h18 _ (List.getElem_mem hi) hcd
   obtain ⟨b0, o0, hA0, hD0, hc0⟩ := sb8_at hxs hi
   rw [hsi]
   refine Zs (Zr ?_)
   refine Xf 3 rfl u62 rfl sz60 ?_
   refine Xl rfl u60 rfl (at_ownL (vs := flV8 f (Value.slice A f.subs.length cp)) (.head _) rfl) ?_
   refine Xm ?_
   refine Xv rfl (v_indexAddr u60 sz67 (congrArg (fun A => some (Value.slice A f.subs.length cp)) hA0) rfl (hi) rfl) ?_
   refine Xf _ rfl u67 rfl sz9 ?_
   refine Xl rfl u9 rfl (at_ro hsn hD0 (hc0 1 (by show 1 < 2; decide))) ?_
   refine x_call (R := fun v wa wb => ∃ E, v = .tuple #[Vi (atoS8 f.subs[i].text), E] ∧ isIface E (!atoB8 f.subs[i].text)) rfl rfl rfl Tryz.func89 Zk rfl (fun w1 hw1 => k_Atoi f.subs[i].text w1 hsz18 (hL.later (hw1.base hro))) fun v21 wa21 wb21 hm21 hl21 hR21 => ?_
   obtain ⟨E, rfl, hE⟩ := hR21
   refine Xm ?_
   refine Xv (v := Vi (atoS8 f.subs[i].text)) rfl (v_extract rfl rfl) ?_
   refine Xe ?_
   refine Xa ?_
   refine Xa ?_
   refine Ze (Zt (Zs ?_))
   refine x_memW (own' := (Bk p3 (flV8 f (Value.slice A f.subs.length cp)) 62) :: (FO x fs ++ L)) (ro' := ro) (fun w1 h => h.less (.refl _) (fun _ h => .tail _ h)) ?_
   rcases three (atoB8 f.subs[i].text) (itoaS (atoS8 f.subs[i].text) = f.subs[i].text) with hA1 | ⟨hA1, hA2⟩ | ⟨hA1, hA2⟩
   ·skip
    refine rg_draw 23 [(true, 0), (true, 1), (true, 2), (true, 3), (true, 4), (true, 5), (true, 6), (true, 7), (true, 8), (true, 9), (true, 10), (true, 11), (true, 12), (true, 13), (true, 14), (true, 15), (true, 16), (true, 17), (true, 18), (true, 19), (true, 20), (true, 21), (true, 22)] Zk Zk ?_
    refine Xm ?_
    refine Xb rfl (v_ieq (b := !atoB8 f.subs[i].text) u135 rfl rfl hE) fun b25 hb25 => ?_
    obtain rfl : b25 = false := hb25.trans (by rw [hA1]; rfl)
    refine Xm ?_
    refine x_no rfl rfl rfl rfl rfl ?_
    refine x_no rfl rfl rfl rfl rfl ?_
    refine x_no rfl rfl rfl rfl rfl ?_
    refine x_no rfl rfl rfl rfl rfl ?_
    refine x_no rfl rfl rfl rfl rfl ?_
    refine x_no rfl rfl rfl rfl rfl ?_
    refine x_no rfl rfl rfl rfl rfl ?_
    refine x_no rfl rfl rfl rfl rfl ?_
    refine x_no rfl rfl rfl rfl rfl ?_
    refine Xv (v := .bool false) rfl (v_pick (b := false) rfl rfl) ?_
    refine Xm ?_
    refine x_no rfl rfl rfl rfl rfl ?_
    refine x_no rfl rfl rfl rfl rfl ?_
    refine x_no rfl rfl rfl rfl rfl ?_
    refine x_no rfl rfl rfl rfl rfl ?_
    refine x_no rfl rfl rfl rfl rfl ?_
    refine x_no rfl rfl rfl rfl rfl ?_
    refine x_no rfl rfl rfl rfl rfl ?_
    refine x_no rfl rfl rfl rfl rfl ?_
    refine Xv (v := .bool false) rfl (v_pick (b := false) rfl rfl) ?_
    refine Ze (Zt ?_)
    refine w_cond rfl (fun hc46 => ?_) fun hc46 => ?_
    ·cases hc46
    skip
    refine w_skip ?_
    have hnO : numO (stF fs).hs f.subs = none := numO_not (fs_acy' hk.ok) hid hi hsi (fun h9 => by rw [hA1] at h9; cases h9.1)
    exact c_norm x ⟨hk, rfl, hnO⟩ Zu (fun w1 h => h)
   ·skip
    refine rg_draw 23 [(true, 0), (true, 1), (true, 2), (true, 3), (true, 4), (true, 5), (true, 6), (true, 7), (true, 8), (true, 9), (true, 10), (true, 11), (true, 12), (true, 13), (true, 14), (true, 15), (true, 16), (true, 17), (true, 18), (true, 19), (true, 20), (true, 21), (true, 22)] Zk Zk ?_
    refine Xm ?_
    refine Xb rfl (v_ieq (b := !atoB8 f.subs[i].text) u135 rfl rfl hE) fun b25 hb25 => ?_
    obtain rfl : b25 = true := hb25.trans (by rw [hA1]; rfl)
    refine Xm ?_
    refine x_valg rfl rfl rfl rfl rfl (v_move rfl) ?_
    refine x_callvg rfl rfl rfl rfl rfl Tryz.func61 Zk rfl (fun w1 hw1 => k_Itoa (atoS8 f.subs[i].text) w1 (atoS8_in hsz18) (hL.later (hw1.base hro))) ?_
    refine x_valg rfl rfl rfl rfl rfl (v_fieldAddr (off' := 3) u62 rfl sz60 (by decide) rfl rfl) ?_
    refine x_valg rfl rfl rfl rfl rfl (v_load u60 rfl rfl (at_ownL (vs := flV8 f (Value.slice A f.subs.length cp)) (.head _) rfl)) ?_
    refine x_valg rfl rfl rfl rfl rfl (v_move rfl) ?_
    refine x_valg rfl rfl rfl rfl rfl (v_indexAddr u60 sz67 (congrArg (fun A => some (Value.slice A f.subs.length cp)) hA0) rfl (hi) rfl) ?_
    refine x_valg rfl rfl rfl rfl rfl (v_fieldAddr u67 rfl sz9 (by decide) rfl rfl) ?_
    refine x_valg rfl rfl rfl rfl rfl (v_load u9 rfl rfl (at_ro hsn hD0 (hc0 1 (by show 1 < 2; decide)))) ?_
    refine x_boolg rfl rfl rfl rfl rfl (v_seql rfl rfl) fun b35 hb35 => ?_
    refine Xb rfl (v_and (g := true) rfl rfl) fun b36 hb36 => ?_
    obtain rfl : b36 = false := (by rw [hb36, hb35, decide_eq_false hA2]; rfl)
    refine Xm ?_
    refine x_no rfl rfl rfl rfl rfl ?_
    refine x_no rfl rfl rfl rfl rfl ?_
    refine x_no rfl rfl rfl rfl rfl ?_
    refine x_no rfl rfl rfl rfl rfl ?_
    refine x_no rfl rfl rfl rfl rfl ?_
    refine x_no rfl rfl rfl rfl rfl ?_
    refine x_no rfl rfl rfl rfl rfl ?_
    refine x_no rfl rfl rfl rfl rfl ?_
    refine Xv (v := .bool false) rfl (v_pick (b := false) rfl rfl) ?_
    refine Ze (Zt ?_)
    refine w_cond rfl (fun hc46 => ?_) fun hc46 => ?_
    ·cases hc46
    skip
    refine w_skip ?_
    have hnO : numO (stF fs).hs f.subs = none := numO_not (fs_acy' hk.ok) hid hi hsi (fun h9 => hA2 h9.2.1)
    exact c_norm x ⟨hk, rfl, hnO⟩ Zu (fun w1 h => h)
   skip
   refine rg_inv ([(Bk p3 (flV8 f (Value.slice A f.subs.length cp)) 62)]) 23 (.flt 0 (.flt 1 (.flt 2 (.flt 3 (.flt 4 (.flt 5 (.flt 6 (.flt 7 (.flt 8 (.flt 9 (.flt 10 (.flt 11 (.flt 12 (.flt 13 (.flt 14 (.flt 19 (.gr 15 (.flt 16 (.flt 17 (.gr 18 (.gr 20 (.flt 21 (.flt 22 .done)) .nil) .nil))) .nil))))))))))))))))) ((List.nil_sublist _).cons_cons _) Zk Zk ?_
   refine j_val rfl rfl (v_move rfl) ?_
   refine j_bool rfl rfl (v_ieq (b := !atoB8 f.subs[i].text) u135 rfl rfl hE) fun b25 hb25 => ?_
   obtain rfl : b25 = true := hb25.trans (by rw [hA1]; rfl)
   refine j_val rfl rfl (v_move rfl) ?_
   refine j_valg rfl rfl rfl rfl (v_move rfl) ?_
   refine j_callvg rfl rfl rfl rfl Tryz.func61 Zk rfl (fun w1 hw1 => k_Itoa (atoS8 f.subs[i].text) w1 (atoS8_in hsz18) (hL.later (hw1.base hro))) ?_
   refine j_valg rfl rfl rfl rfl (v_fieldAddr (off' := 3) u62 rfl sz60 (by decide) rfl rfl) ?_
   refine j_valg rfl rfl rfl rfl (v_load u60 rfl rfl (at_ownL (vs := flV8 f (Value.slice A f.subs.length cp)) (.head _) rfl)) ?_
   refine j_valg rfl rfl rfl rfl (v_move rfl) ?_
   refine j_valg rfl rfl rfl rfl (v_indexAddr u60 sz67 (congrArg (fun A => some (Value.slice A f.subs.length cp)) hA0) rfl (hi) rfl) ?_
   refine j_valg rfl rfl rfl rfl (v_fieldAddr u67 rfl sz9 (by decide) rfl rfl) ?_
   refine j_valg rfl rfl rfl rfl (v_load u9 rfl rfl (at_ro hsn hD0 (hc0 1 (by show 1 < 2; decide)))) ?_
   refine j_boolg rfl rfl rfl rfl (v_seql rfl rfl) fun b35 hb35 => ?_
   refine j_bool rfl rfl (v_and (g := true) rfl rfl) fun b36 hb36 => ?_
   obtain rfl : b36 = true := (by rw [hb36, hb35, decide_eq_true hA2]; rfl)
   refine j_val rfl rfl (v_move rfl) ?_
   refine j_valg rfl rfl rfl rfl (v_move rfl) ?_
   refine j_valg rfl rfl rfl rfl (v_move rfl) ?_
   refine j_gr ?_ j_nil
   refine x_turnVg (τ := SM) (fun y => Pt y.ps) (fun y => FOK { x with now := some y } fs) (fun y => (Bk p3 (flV8 f (Value.slice A f.subs.length cp)) 62) :: (FO { x with now := some y } fs ++ L)) rfl rfl rfl rfl Tryz.func42 Zk rfl (fun w1 hw1 => (k_state (L := (Bk p3 (flV8 f (Value.slice A f.subs.length cp)) 62) :: L) hk hro hL (hw1.perm List.perm_middle.symm)).mono fun e w2 ⟨y, h1, h2, h3⟩ => ⟨y, h1, h2, h3.perm List.perm_middle⟩) fun y hky => ?_
   refine Ze ?_
   refine j_end ((List.nil_sublist _).cons_cons _) ?_
   refine j_valg rfl rfl rfl rfl (v_nilCheck rfl) ?_
   refine j_valg rfl rfl rfl rfl (v_fieldAddr u91 rfl sz88 (by decide) rfl rfl) ?_
   refine j_gr ?_ j_nil
   refine x_valg rfl rfl rfl rfl rfl (v_load u88 rfl rfl (at_ownL (vs := smC y (stF fs).ref.length) (.tail _ (List.mem_append_left _ (.tail _ (List.mem_append_right _ (.head _))))) rfl)) ?_
   refine Ze ?_
   refine j_end ((List.nil_sublist _).cons_cons _) ?_
   refine j_gr ?_ j_nil
   refine x_valg (v := Value.pointer (ptV (lkM8 y.hs (atoS8 f.subs[i].text)))) rfl rfl rfl rfl rfl (v_lookupH u88 (Maps.int_keyed u3) zr86 rfl rfl (Maps.keyOf_int_mk u3 (wf_in (atoS8_in hsz18))) (map_own (.tail _ (List.mem_append_left _ (.tail _ (List.mem_append_right _ (.tail _ (.head _))))))) (hky.now y rfl).1.mc.f (hm_get y.hs _)) ?_
   refine Ze ?_
   refine j_end ((List.nil_sublist _).cons_cons _) ?_
   refine j_boolg rfl rfl rfl rfl (v_nep u86 rfl rfl) fun b45 hb45 => ?_
   refine j_bool rfl rfl (v_and (g := true) rfl rfl) fun b46 hb46 => ?_
   refine j_done ?_
   refine Ze (Zt ?_)
   refine w_cond rfl (fun hc46 => ?_) fun hc46 => ?_
   ·simp only [hb46, Qz, ne_eq] at hc46
    refine Zs (Zr ?_)
    refine Xm ?_
    refine Xa ?_
    refine Xa ?_
    refine Ze (Zt (w_ret (t_ret ?_)))
    have h8 : (lkH (stF fs).hs (atoS8 f.subs[i].text)).isSome = true := by
     rw [lkS (hky.now y rfl).1, Option.isSome_map]
     have h7 := hc46.2
     rw [hb45, pt_some] at h7
     exact h7
    have hf := hdF_some ((numO_at (fs_acy' hk.ok) hid hi hsi (atoS8 f.subs[i].text)).2 ⟨hA1, rfl, hA2, h8⟩)
    rw [hf]
    exact ret2 rfl rfl rfl (fun w' hm' => ⟨rfl, { x with now := some y }, ⟨hky, rfl⟩, hm'.less (List.sublist_cons_self _ _) (fun _ h => h)⟩)
   simp only [hb46, Qz, ne_eq] at hc46
   refine w_skip ?_
   have hnO : numO (stF fs).hs f.subs = none := numO_not (fs_acy' hk.ok) hid hi hsi (fun h9 => by have h8 := h9.2.2; rw [lkS (hky.now y rfl).1, Option.isSome_map] at h8; have h7 : b45 = false := (by simpa [hb46] using hc46); rw [hb45, pt_some, h8] at h7; cases h7)
   exact c_norm { x with now := some y } ⟨hky, rfl, hnO⟩ Zu (fun w1 h => h)
  simp only [hb13, Qz, ne_eq] at hc13
  have hnO : numO (stF fs).hs f.subs = none := by unfold numO; rw [if_neg hc13]
  refine w_skip ?_
  exact c_norm x ⟨hk, rfl, hnO⟩ Zu (fun w1 h => h)
 rintro z ⟨hkz, hzp, hnO⟩
 refine w_state ([(0, Pt x.pf), (3, Pt p3)]) ((Bk p3 (flV8 f (Value.slice A f.subs.length cp)) 62) :: (FO z fs ++ L)) (ro) ?_
 refine Zs (Zs (Zr ?_))
 refine Xv rfl (v_load_blk u62 rfl rfl (.head _) (by exact sz62)) ?_
 refine x_callv rfl rfl rfl Tryz.func63 Zk rfl (fun w1 hw1 => k_sub f 97 w1 (hrd _ _ hw1)) ?_
 refine Xa ?_
 refine Ze (Zt (Zs (Zr ?_)))
 refine Xm ?_
 refine Xb rfl (v_geq rfl rfl) fun b51 hb51 => ?_
 refine Ze (Zt ?_)
 refine w_cond rfl (fun hc51 => ?_) fun hc51 => ?_
 ·simp only [hb51, Qz, ne_eq] at hc51
  obtain ⟨i2, hi2, hsi2, htx2, hcd2⟩ := subI_at hc51
  obtain ⟨b1, o1, hA1, hD1, hc1⟩ := sb8_at hxs hi2
  rw [hsi2]
  refine Zs (Zr ?_)
  refine Xm ?_
  refine Xf 3 rfl u62 rfl sz60 ?_
  refine Xl rfl u60 rfl (at_ownL (vs := flV8 f (Value.slice A f.subs.length cp)) (.head _) rfl) ?_
  refine Xm ?_
  refine Xv rfl (v_indexAddr u60 sz67 (congrArg (fun A => some (Value.slice A f.subs.length cp)) hA1) rfl (hi2) rfl) ?_
  refine Xf _ rfl u67 rfl sz9 ?_
  refine Xl rfl u9 rfl (at_ro hsn hD1 (hc1 1 (by show 1 < 2; decide))) ?_
  refine x_turn (τ := FM8) (v := .tuple #[Vi (findF (stF fs).hs f.subs[i2].text).1, .bool (findF (stF fs).hs f.subs[i2].text).2]) (fst := #[]) (cap := #[]) (fun x' => FOK x' fs ∧ x'.pf = x.pf) (fun x' => (Bk p3 (flV8 f (Value.slice A f.subs.length cp)) 62) :: (FO x' fs ++ L)) rfl rfl rfl Tryz.func19 Zk rfl (fun w1 hw1 => by
   simp only [Array.empty_append, Array.append_empty]
   have h := k_Find (t := f.subs[i2].text) (L := (Bk p3 (flV8 f (Value.slice A f.subs.length cp)) 62) :: L) hkz (by have := hsm.2 _ (List.getElem_mem hi2); omega) hro hL (hw1.perm List.perm_middle.symm)
   rw [hzp] at h
   exact h.mono fun e w2 ⟨h1, x', h2, h3⟩ => ⟨h1, x', h2, h3.perm List.perm_middle⟩) ?_
  rintro x' ⟨hk', hp'⟩
  refine Xe ?_
  refine Xb rfl (v_extract rfl rfl) fun b61 hb61 => ?_
  refine Xa ?_
  refine Xa ?_
  refine Ze (Zt (w_ret (t_ret ?_)))
  have hf : hdF (stF fs).hs f.subs = findF (stF fs).hs f.subs[i2].text := by rw [hdF_none hnO, if_pos hc51, hsi2, txtI_at hi2]
  rw [hf]
  exact ret2 rfl rfl rfl (fun w' hm' => ⟨by rw [hb61]; rfl, x', ⟨hk', hp'⟩, hm'.less (List.sublist_cons_self _ _) (fun _ h => h)⟩)
 simp only [hb51, Qz, ne_eq] at hc51
 skip
 refine w_skip (Zt (Zs (Zr ?_)))
 refine Xa ?_
 refine Xa ?_
 refine Ze (Zt (w_ret ?_))
 have hf : hdF (stF fs).hs f.subs = (0, false) := by rw [hdF_none hnO, if_neg hc51]
 rw [hf]
 exact ret2 rfl rfl rfl (fun w' hm' => ⟨rfl, z, ⟨hkz, hzp⟩, hm'.less (List.sublist_cons_self _ _) (fun _ h => h)⟩)
open Go.RowKit Go.PK
theorem ap62 : (Tryz.prog.info? 62).map (fun j => (j.zero, j.size, j.bytes)) = some (some (.agg #[.string ⟨#[]⟩, .string ⟨#[]⟩, .string ⟨#[]⟩, .slice none 0 0]), 4, 72) := by kernel_rfl
theorem k_CloneF {b0 o0 n cp : Nat} {news : List Value} (w : World) (hl : news.length = n * 6) (hat : ∀ j (hj : j < news.length), w.cell? ⟨b0, o0 + j, none⟩ = some news[j]) (h1 : news.all (fun u => u.oneCell') = true) (hn : n ≤ 1000000) :
  Calls Tryz.prog 51 #[.slice (some ⟨b0, o0, none⟩) n cp] w fun e w' => ∃ R', e = .returned (rowV R' n) ∧ rowOK 6 R' n news ∧ Mem w' (rowO 28 R') [(w, fun _ => True)] := by
 refine enter (vs := [.slice (some ⟨b0, o0, none⟩) n cp]) Tryz.func51 rfl Tryz.ntmps51 rfl ?_
 refine Zs (Zr ?_)
 refine Xa ?_
 refine Ze (Zt (Zs (Zs (Zr ?_))))
 refine Xm ?_
 refine Xb rfl (v_sliceNil (A := some ⟨b0, o0, none⟩) u24 rfl) fun b4 hb4 => ?_
 refine Ze (Zt ?_)
 refine w_cond rfl (fun hc4 => ?_) fun hc4 => ?_
 ·rw [hb4] at hc4; cases hc4
 skip
 refine w_skip (Zt (Zs (Zr ?_)))
 refine x_buildSlice0 rfl rfl rfl u24 sz28 ?_
 intro p5
 refine Xm ?_
 refine x_append (e := 28) [] (l2 := []) (some (p5, [], 0)) (len := 0) (xs := []) rfl rfl rfl rfl rfl ⟨rfl, Nat.le_refl _, Nat.zero_le _, rfl, rfl⟩ u24 ap28 rfl hl (m := n) (news := news) (fun j hj => at_ro (.head _) trivial (hat j hj)) h1 Zx (by omega) fun R' hR' => ?_
 rw [Nat.zero_add, List.nil_append] at hR'
 refine Xa ?_
 refine Ze (Zt (w_ret ?_))
 exact ret1 rfl rfl (fun w' hm => ⟨R', by rw [Nat.zero_add], hR', by simpa using hm⟩)
theorem k_CloneS {b0 o0 n cp : Nat} {news : List Value} (w : World) (hl : news.length = n * 2) (hat : ∀ j (hj : j < news.length), w.cell? ⟨b0, o0 + j, none⟩ = some news[j]) (h1 : news.all (fun u => u.oneCell') = true) (hn : n ≤ 1000000) :
  Calls Tryz.prog 62 #[.slice (some ⟨b0, o0, none⟩) n cp] w fun e w' => ∃ R', e = .returned (rowV R' n) ∧ rowOK 2 R' n news ∧ Mem w' (rowO 67 R') [(w, fun _ => True)] := by
 refine enter (vs := [.slice (some ⟨b0, o0, none⟩) n cp]) Tryz.func62 rfl Tryz.ntmps62 rfl ?_
 refine Zs (Zr ?_)
 refine Xa ?_
 refine Ze (Zt (Zs (Zs (Zr ?_))))
 refine Xm ?_
 refine Xb rfl (v_sliceNil (A := some ⟨b0, o0, none⟩) u60 rfl) fun b4 hb4 => ?_
 refine Ze (Zt ?_)
 refine w_cond rfl (fun hc4 => ?_) fun hc4 => ?_
 ·rw [hb4] at hc4; cases hc4
 skip
 refine w_skip (Zt (Zs (Zr ?_)))
 refine x_buildSlice0 rfl rfl rfl u60 sz67 ?_
 intro p5
 refine Xm ?_
 refine x_append (e := 67) [] (l2 := []) (some (p5, [], 0)) (len := 0) (xs := []) rfl rfl rfl rfl rfl ⟨rfl, Nat.le_refl _, Nat.zero_le _, rfl, rfl⟩ u60 ap67 rfl hl (m := n) (news := news) (fun j hj => at_ro (.head _) trivial (hat j hj)) h1 Zx (by omega) fun R' hR' => ?_
 rw [Nat.zero_add, List.nil_append] at hR'
 refine Xa ?_
 refine Ze (Zt (w_ret ?_))
 exact ret1 rfl rfl (fun w' hm => ⟨R', by rw [Nat.zero_add], hR', by simpa using hm⟩)
theorem k_CloneL {b0 o0 n cp : Nat} {news : List Value} (w : World) (hl : news.length = n * 4) (hat : ∀ j (hj : j < news.length), w.cell? ⟨b0, o0 + j, none⟩ = some news[j]) (h1 : news.all (fun u => u.oneCell') = true) (hn : n ≤ 1000000) :
  Calls Tryz.prog 59 #[.slice (some ⟨b0, o0, none⟩) n cp] w fun e w' => ∃ R', e = .returned (rowV R' n) ∧ rowOK 4 R' n news ∧ Mem w' (rowO 62 R') [(w, fun _ => True)] := by
 refine enter (vs := [.slice (some ⟨b0, o0, none⟩) n cp]) Tryz.func59 rfl Tryz.ntmps59 rfl ?_
 refine Zs (Zr ?_)
 refine Xa ?_
 refine Ze (Zt (Zs (Zs (Zr ?_))))
 refine Xm ?_
 refine Xb rfl (v_sliceNil (A := some ⟨b0, o0, none⟩) u49 rfl) fun b4 hb4 => ?_
 refine Ze (Zt ?_)
 refine w_cond rfl (fun hc4 => ?_) fun hc4 => ?_
 ·rw [hb4] at hc4; cases hc4
 skip
 refine w_skip (Zt (Zs (Zr ?_)))
 refine x_buildSlice0 rfl rfl rfl u49 sz62 ?_
 intro p5
 refine Xm ?_
 refine x_append (e := 62) [] (l2 := []) (some (p5, [], 0)) (len := 0) (xs := []) rfl rfl rfl rfl rfl ⟨rfl, Nat.le_refl _, Nat.zero_le _, rfl, rfl⟩ u49 ap62 rfl hl (m := n) (news := news) (fun j hj => at_ro (.head _) trivial (hat j hj)) h1 Zx (by omega) fun R' hR' => ?_
 rw [Nat.zero_add, List.nil_append] at hR'
 refine Xa ?_
 refine Ze (Zt (w_ret ?_))
 exact ret1 rfl rfl (fun w' hm => ⟨R', by rw [Nat.zero_add], hR', by simpa using hm⟩)
theorem k_CloneF0 (w : World) :
  Calls Tryz.prog 51 #[.slice none 0 0] w fun e w' => e = .returned (.slice none 0 0) ∧ Later w w' := by
 refine enter (vs := [.slice none 0 0]) Tryz.func51 rfl Tryz.ntmps51 rfl ?_
 refine Zs (Zr ?_)
 refine Xa ?_
 refine Ze (Zt (Zs (Zs (Zr ?_))))
 refine Xm ?_
 refine Xb rfl (v_sliceNil (A := none) u24 rfl) fun b4 hb4 => ?_
 refine Ze (Zt ?_)
 refine w_cond rfl (fun hc4 => ?_) fun hc4 => ?_
 ·skip
  refine Zs (Zr ?_)
  refine Xa ?_
  refine Ze (Zt (w_ret (t_ret ?_)))
  refine ret1 rfl rfl (fun w' hm => ⟨?_, hm.base (by simp)⟩)
  rfl
 rw [hb4] at hc4; cases hc4
theorem k_CloneR {R : RowS} {l : List FD} (w : World) (hr : PK.rowR 28 6 FD.cells R l w) (hn : l.length ≤ 1000000) : Calls Tryz.prog 51 #[rowV R l.length] w fun e w' => ∃ R', e = .returned (rowV R' l.length) ∧ rowOK 6 R' l.length (fdsC l) ∧ Mem w' (rowO 28 R') [(w, fun _ => True)] := by
 cases R with
 | none =>
  have h0 : l.length = 0 := by have := hr.1.2; simpa using this
  have e0 : rowV none l.length = .slice none 0 0 := by rw [h0]; rfl
  have hk := hr.1
  rw [e0]
  exact (k_CloneF0 w).mono fun e w' ⟨h1, h2⟩ => ⟨none, by rw [e0]; exact h1, hk, (Mem.init w).later h2⟩
 | some r =>
  obtain ⟨g, cs, c⟩ := r
  refine k_CloneF (o0 := 0) (n := l.length) (news := fdsC l) w (fdsC_len l) (fun j hj => ?_) (fdsC_one l) hn
  have hg := hr.2 (g, .cells cs.toArray 28 (0, 0)) (.head _)
  obtain ⟨_, _, _, h4, h5⟩ := hr.1
  dsimp only at h4 h5
  rw [cell_of_row w g _ _ 28 (0, 0) hg, List.getElem?_toArray, Nat.zero_add]
  have h6 : (fdsC l)[j]? = some (fdsC l)[j] := List.getElem?_eq_getElem hj
  rw [fdsC_len] at hj
  rw [← List.getElem?_take_of_lt hj, h5]
  exact h6
theorem ref_perm {α : Type} {a : α} {R S F L : List α} : (R ++ (S ++ (a :: (F ++ L)))).Perm (a :: (S ++ (F ++ (R ++ L)))) := by
 have h1 : (R ++ (S ++ (a :: (F ++ L)))).Perm (R ++ (a :: (S ++ (F ++ L)))) := List.Perm.append_left _ List.perm_middle
 have h2 : (R ++ (a :: (S ++ (F ++ L)))).Perm (a :: (R ++ (S ++ (F ++ L)))) := List.perm_middle
 have h3 : (R ++ (S ++ (F ++ L))).Perm (S ++ (F ++ (R ++ L))) := (perm_swap3 R S (F ++ L)).trans (List.Perm.append_left _ (perm_swap3 R F L))
 exact (h1.trans h2).trans (h3.cons a)
set_option maxHeartbeats 1000000 in
theorem k_Refused {x : FM8} {fs : List FD} {L : List (Nat × Obj)} {ro : List Snap} {w w0 : World} (hk : FOK x fs) (hro : (w0, fun _ => True) ∈ ro) (hL : LD w0) (hm : Mem w (FO x fs ++ L) ro) :
  Calls Tryz.prog 20 #[Pt x.pf] w fun e w' => ∃ R', e = .returned (rowV R' (stF fs).ref.length) ∧ rowOK 6 R' (stF fs).ref.length (fdsC (stF fs).ref) ∧ ∃ x' : FM8, (FOK x' fs ∧ x'.pf = x.pf) ∧ Mem w' (FO x' fs ++ (rowO 28 R' ++ L)) ro := by
 refine enter_in hm (vs := [Pt x.pf]) Tryz.func20 rfl Tryz.ntmps20 rfl ?_
 refine Zs (Zr ?_)
 refine Xa ?_
 refine Ze (Zt (Zs (Zs (Zr ?_))))
 refine Xm ?_
 refine Xb rfl (v_pnil (o := some ⟨x.pf, 0, none⟩) u29 rfl rfl) fun b4 hb4 => ?_
 refine Ze (Zt ?_)
 refine w_cond rfl (fun hc4 => ?_) fun hc4 => ?_
 ·rw [hb4] at hc4; cases hc4
 skip
 refine w_skip (Zt (Zs (Zr ?_)))
 refine Xm ?_
 refine x_turnV (τ := SM) (fst := #[]) (cap := #[]) (fun y => Pt y.ps) (fun y => FOK { x with now := some y } fs) (fun y => FO { x with now := some y } fs ++ L) rfl rfl rfl Tryz.func42 Zk rfl (fun w1 hw1 => by
  simp only [Array.empty_append, Array.append_empty]
  exact k_state (L := L) hk hro hL hw1) ?_
 intro y hky
 refine x_mem (fun _ h => (h.perm (FO_some (x := { x with now := some y }) rfl L)).perm List.perm_middle.symm) ?_
 refine Xn ?_
 refine Xf _ rfl u91 rfl sz24 ?_
 refine Xl rfl u24 rfl (at_ownL (vs := smC y (stF fs).ref.length) (.head _) rfl) ?_
 refine x_own (τ := RowS) (fun R' => rowV R' (stF fs).ref.length) (fun R' => rowOK 6 R' (stF fs).ref.length (fdsC (stF fs).ref)) (fun R' => rowO 28 R' ++ (SO y (stF fs).ref.length ++ ((Bk x.pf [rowV x.F fs.length, Pt y.ps] 78) :: (rowO 28 x.F ++ L)))) rfl rfl rfl Tryz.func51 Zk rfl (fun w1 hw1 => (k_CloneR (l := (stF fs).ref) w1 (hw1.rowR (hky.now y rfl).1.rf (fun q hq => List.mem_append_left _ (.tail _ (.tail _ (List.mem_append_right _ (List.mem_append_left _ hq)))))) (by have := (fs_bnd' hk.ok).ref; omega)).mono fun e w2 ⟨R', h1, h2, h3⟩ => ⟨R', h1, h3.base (by simp), h2, hw1.join2 h3⟩) fun R' hR' => ?_
 refine Xa ?_
 refine Ze (Zt (w_ret ?_))
 exact ret1 rfl rfl (fun w' hm' => ⟨R', rfl, hR', { x with now := some y }, ⟨⟨hk.row, hk.ok, hk.sz, fun y2 hy2 => by injection hy2 with hy2; subst hy2; exact hky.now _ rfl⟩, rfl⟩, (hm'.perm ref_perm).perm (FO_some (x := { x with now := some y }) rfl (rowO 28 R' ++ L)).symm⟩)
open Go.RowKit Go.PK
theorem ruled_ok (p : Nat) : rowOK 1 (some (p, ruledL.map Value.string, 5)) ruledL.length (ruledL.flatMap (fun x : ByteArray => [Value.string x])) := ⟨rfl, Nat.le_refl _, by simp only [maxLen]; omega, rfl, rfl⟩
theorem k_ruled {p : Nat} {t : ByteArray} (w : World) (h : w.heap[p]? = some (.cells (ruledL.map Value.string).toArray 9 (0, 0))) : Calls Tryz.prog 48 #[.slice (some ⟨p, 0, none⟩) 5 5, .string t] w fun e w' => e = .returned (.bool (amg ruledL t)) ∧ Later w w' := by
 have h1 : PK.rowR 9 1 (fun x : ByteArray => [Value.string x]) (some (p, ruledL.map Value.string, 5)) ruledL w := ⟨ruled_ok p, fun q hq => by rw [List.mem_singleton.1 hq]; exact h⟩
 have h2 : ruledL.length = 5 := rfl
 have h3 := k_Contains (t := t) w h1 (by rw [h2]; omega)
 have e : rowV (some (p, ruledL.map Value.string, 5)) ruledL.length = .slice (some ⟨p, 0, none⟩) 5 5 := by rw [h2]; rfl
 rw [e] at h3
 exact h3
theorem es_len {gs : List Fl} {es : List FE} {k : Nat} {g : Fl → Fl} (hk : k ≤ gs.length) (h : es.map (·.f) = (gs.take k).map g ++ gs.drop k) : es.length = gs.length := by
 have := congrArg List.length h
 rw [List.length_map, List.length_append, List.length_map, List.length_take, List.length_drop] at this
 omega
theorem rw_perm {α : Type} {R F X M : List α} : (R ++ (F ++ (X ++ M))).Perm (F ++ (X ++ (R ++ M))) := (perm_swap3 R F (X ++ M)).trans (List.Perm.append_left _ (perm_swap3 R X M))
theorem hdF_ne {hs : List HG} {l : List Sb} (h : (hdF hs l).2 = true) : l ≠ [] := fun e => by subst e; simp [hdF, subI, fidx] at h
theorem EO_setL {T : TypeId} {es : List FE} {k : Nat} (hk : k < es.length) (h0 : es[k].S = none) (e' : FE) (L : List (Nat × Obj)) : (rowO T e'.S ++ (EOs T es ++ L)).Perm (EOs T (es.set k e') ++ L) := by
 rw [← List.append_assoc]; exact (EO_set hk h0 e').symm.append_right L
theorem fin_perm {α : Type} {F X E L : List α} : (F ++ (X ++ (E ++ L))).Perm ((X ++ E) ++ (F ++ L)) := by
 rw [← List.append_assoc X E L]
 exact perm_swap3 F (X ++ E) L
theorem _root_.Go.PK.Mem.disj {w : World} {l1 l2 : List (Nat × Obj)} {ro : List Snap} (h : Mem w (l1 ++ l2) ro) : ∀ p ∈ l1, ∀ q ∈ l2, q.1 ≠ p.1 := fun p hp q hq e => by
 have h1 := h.own_nd
 rw [List.map_append, List.nodup_append] at h1
 exact h1.2.2 p.1 (List.mem_map_of_mem hp) q.1 (List.mem_map_of_mem hq) e.symm
set_option maxHeartbeats 4000000 in
theorem k_Rewrite {x : FM8} {fs : List FD} {gs : List Fl} {v : Value} {kd lv : Int} {D : Nat → Prop} {ws : World} {L : List (Nat × Obj)} {ro : List Snap} {w w0 : World} (hk : FOK x fs) (hid : ∀ h ∈ (stF fs).hs, h.id < 1000000000000000000) (hsn : (ws, D) ∈ ro) (hxs : sliceRd tyFl D ws v gs) (hne : gs ≠ []) (hgl : gs.length ≤ 100000) (hsm : ∀ f ∈ gs, smFl f ∧ okFl f ∧ ∀ s ∈ f.subs, s.code = 48 → s.text.size ≤ 18) (hro : (w0, fun _ => True) ∈ ro) (hL : LD w0) (hm : Mem w (FO x fs ++ L) ro) :
  Calls Tryz.prog 28 #[Pt x.pf, .agg #[.int .u8 kd, .int .u8 lv, v]] w fun e w' => ∃ (x' : FM8) (v' : Value), e = .returned (.agg #[.int .u8 kd, .int .u8 lv, v']) ∧ (FOK x' fs ∧ x'.pf = x.pf) ∧ sliceRd tyFl (notOwn (FO x' fs ++ L)) w' v' (rewF (stF fs).hs gs) ∧ Mem w' (FO x' fs ++ L) ro := by
 obtain ⟨A, cp, rfl, hlc, hmx, hA⟩ := id hxs
 obtain ⟨b0, o0, es0, rfl, hD0, hm0, hg0, hc0⟩ := fl_cells hxs hne
 have hes0 : es0.length = gs.length := by rw [← hm0, List.length_map]
 have hrdF : ∀ w1 own1, Mem w1 own1 ro → sliceRd tyFl D w1 (Value.slice (some ⟨b0, o0, none⟩) gs.length cp) gs := fun w1 own1 hw1 => hxs.keep (Kept.snap hw1 hsn (fun k h _ => h))
 refine enter_in hm (vs := [Pt x.pf, .agg #[.int .u8 kd, .int .u8 lv, Value.slice (some ⟨b0, o0, none⟩) gs.length cp]]) Tryz.func28 rfl Tryz.ntmps28 rfl ?_
 refine Zs (Zr ?_)
 refine x_box rfl rfl rfl rfl ?_
 intro p3
 refine x_alloc rfl rfl rfl zr51 ?_
 intro p4
 refine Ze (Zt (Zs (Zs (Zr ?_))))
 refine Xm ?_
 refine Xb rfl (v_pnil (o := some ⟨x.pf, 0, none⟩) u29 rfl rfl) fun b16 hb16 => ?_
 refine Ze (Zt ?_)
 refine w_cond rfl (fun hc16 => ?_) fun hc16 => ?_
 ·rw [hb16] at hc16; cases hc16
 skip
 refine w_skip (Zt (Zs (Zr ?_)))
 refine x_buildSliceL (cs := ruledL.map Value.string) rfl rfl rfl u38 sz9 zr9 rfl rfl rfl ?_
 intro p18
 refine Xa ?_
 refine Ze (Zt (Zs (Zr ?_)))
 refine Xv rfl (v_load_blk u51 rfl rfl (.tail _ (.tail _ (.head _))) (by exact sz51)) ?_
 refine x_callv rfl rfl rfl Tryz.func58 Zk rfl (fun w1 hw1 => k_title w1 (hrdF _ _ hw1) (fun f hf => (hsm f hf).1)) ?_
 refine Xa ?_
 refine Ze (Zt (Zs (Zr ?_)))
 refine Xf 2 rfl u51 rfl sz49 ?_
 refine Xl rfl u49 rfl (at_ownL (vs := [Value.int .u8 kd, Value.int .u8 lv, Value.slice (some ⟨b0, o0, none⟩) gs.length cp]) (.tail _ (.tail _ (.head _))) rfl) ?_
 refine x_own (τ := RowS) (fun R' => rowV R' gs.length) (fun R' => rowOK 4 R' gs.length (es0.flatMap feC)) (fun R' => rowO 62 R' ++ ((Bk p18 (ruledL.map Value.string) 9) :: (Bk p4 [Value.int .u8 0, Value.int .u8 0, Value.slice none 0 0] 51) :: (Bk p3 [Value.int .u8 kd, Value.int .u8 lv, Value.slice (some ⟨b0, o0, none⟩) gs.length cp] 51) :: (FO x fs ++ L))) rfl rfl rfl Tryz.func59 Zk rfl (fun w1 hw1 => (k_CloneL (news := es0.flatMap feC) w1 (by rw [flC_len (c := feC) (m := 4) (fun _ => rfl), hes0]) (fun j hj => at_ro hsn hD0 (hc0 j hj) w1 hw1) (feC_one (fun e he => .inl ⟨(hg0 e he).1, (hg0 e he).2.1⟩)) (by omega)).mono fun e w2 ⟨R', h1, h2, h3⟩ => ⟨R', h1, h3.base (by simp), h2, hw1.join2 h3⟩) fun C hC => ?_
 obtain ⟨gC, csC, cpC, rfl, _⟩ := hC.cell (j := 0) (by rw [flC_len (c := feC) (m := 4) (fun _ => rfl), hes0]; have := List.length_pos_iff.2 hne; omega)
 refine Xf 2 rfl u51 rfl sz49 ?_
 refine x_store (cs := [Value.int .u8 kd, Value.int .u8 lv, Value.slice (some ⟨b0, o0, none⟩) gs.length cp]) (off := 2) (e := 51) (l2 := FO x fs ++ L) [(gC, _), (p18, _), (p4, _)] rfl rfl rfl rfl sz49 rfl (by show 2 + 1 ≤ 3; decide) ?_
 refine Ze (Zt (Zs (Zs (Zr ?_))))
 refine Xf 2 rfl u51 rfl sz49 ?_
 refine Xl rfl u49 rfl (at_ownL (vs := [Value.int .u8 kd, Value.int .u8 lv, Value.slice (some ⟨gC, 0, none⟩) gs.length cpC]) (.tail _ (.tail _ (.tail _ (.head _)))) rfl) ?_
 refine Xv (v := Vi (gs.length : Nat)) rfl (v_len_slice u49 rfl) ?_
 refine Xm ?_
 refine Ze (Zt (w_block ?_))
 refine w_loop (σ := Nat × List FE × List Value × FM8) (fun q => q.1 ≤ gs.length ∧ FOK q.2.2.2 fs ∧ q.2.2.2.pf = x.pf ∧ rowOK 4 (some (gC, q.2.2.1, cpC)) q.2.1.length (q.2.1.flatMap feC) ∧ q.2.1.map (·.f) = (gs.take q.1).map (rewX (stF fs).hs (titF gs)) ++ gs.drop q.1 ∧ (∀ e ∈ q.2.1, goodE ws D e ∧ okFl e.f) ∧ (∀ j (h : j < q.2.1.length), q.1 ≤ j → q.2.1[j].S = none ∧ sliceRd tySb D ws q.2.1[j].v q.2.1[j].f.subs)) (fun q => [(0, Pt x.pf), (3, Pt p3), (4, Pt p4), (5, Value.slice (some ⟨p18, 0, none⟩) 5 5), (6, Value.string (titF gs)), (26, Value.slice (some ⟨gC, 0, none⟩) gs.length cpC), (27, Vi (gs.length : Nat)), (28, Vi (q.1 : Nat))]) (fun q => FO q.2.2.2 fs ++ ((Bk gC q.2.2.1 62) :: (Bk p18 (ruledL.map Value.string) 9) :: (Bk p4 [Value.int .u8 0, Value.int .u8 0, Value.slice none 0 0] 51) :: (Bk p3 [Value.int .u8 kd, Value.int .u8 lv, Value.slice (some ⟨gC, 0, none⟩) gs.length cpC] 51) :: (EOs 67 q.2.1 ++ L))) (fun q => ro) (fun q => gs.length - q.1) ((0, es0, csC, x)) (⟨Nat.zero_le _, hk, rfl, by rw [hes0]; exact hC, by rw [hm0]; rfl, fun e he => ⟨.inl ⟨(hg0 e he).1, (hg0 e he).2.1⟩, (hsm _ (by rw [← hm0]; exact List.mem_map_of_mem he)).2.1⟩, fun j h _ => ⟨(hg0 _ (List.getElem_mem h)).1, (hg0 _ (List.getElem_mem h)).2.1⟩⟩) (l_start Zu (fun w1 h => (h.perm (perm_swap3 [_, _, _, _] (FO x fs) L)).to (by simp only [EO_none (fun e he => (hg0 e he).1)]; rfl))) ?_
 rintro ⟨k, es, cs, z⟩ ⟨hkL, hkz, hzp, hC, hmap, hgood, hnone⟩
 refine w_state ([(0, Pt x.pf), (3, Pt p3), (4, Pt p4), (5, Value.slice (some ⟨p18, 0, none⟩) 5 5), (6, Value.string (titF gs)), (26, Value.slice (some ⟨gC, 0, none⟩) gs.length cpC), (27, Vi (gs.length : Nat)), (28, Vi (k : Nat))]) (FO z fs ++ ((Bk gC cs 62) :: (Bk p18 (ruledL.map Value.string) 9) :: (Bk p4 [Value.int .u8 0, Value.int .u8 0, Value.slice none 0 0] 51) :: (Bk p3 [Value.int .u8 kd, Value.int .u8 lv, Value.slice (some ⟨gC, 0, none⟩) gs.length cpC] 51) :: (EOs 67 es ++ L))) (ro) ?_
 dsimp only at hkL hkz hzp hC hmap hgood hnone
 have hesl := es_len hkL hmap
 refine Zs (Zr ?_)
 refine Xb rfl (v_lss rfl rfl) fun b29 hb29 => ?_
 refine Ze (Zt (Zs ?_))
 refine w_cond rfl (fun hc29 => ?_) fun hc29 => ?_
 ·simp only [hb29, Qz, ne_eq] at hc29
  have hkl : k < gs.length := by omega
  have hke : k < es.length := by omega
  obtain ⟨hef, hkeep, hput⟩ := rw_step hmap hkl hke
  obtain ⟨g9, cs9, cp9, hR9, hcp9, hcl9⟩ := row_at (c := feC) (m := 4) (fun _ => rfl) (by decide) hC hke
  obtain ⟨rfl, rfl, rfl⟩ : gC = g9 ∧ cs = cs9 ∧ cpC = cp9 := by simpa using hR9
  obtain ⟨hS5, hs5⟩ := hnone k hke (Nat.le_refl _)
  rw [hef] at hs5
  have hfe : feC es[k] = flV8 gs[k] es[k].v := by unfold feC; rw [hef]
  rw [hfe] at hcl9
  obtain ⟨v5, hv5⟩ : ∃ v, es[k].v = v := ⟨_, rfl⟩
  rw [hv5] at hs5 hcl9
  obtain ⟨A5, c5, rfl, hlc5, hmx5, hA5⟩ := id hs5
  obtain ⟨hsm5, hok5, h18⟩ := hsm gs[k] (List.getElem_mem hkl)
  refine w_skip (Zt (Zs (w_block (Zs (Zr ?_)))))
  refine Xm ?_
  refine Xv rfl (v_indexAddr u49 sz62 rfl rfl (hkl) rfl) ?_
  refine Xv rfl (v_loadN (vs := flV8 gs[k] (Value.slice A5 gs[k].subs.length c5)) u62 rfl sz62 rfl (fun i hi => at_ownL (vs := cs) (List.mem_append_right _ (.head _)) (by rw [Nat.zero_add]; exact (hcl9 i hi).trans (List.getElem?_eq_getElem hi)))) ?_
  refine x_alloc rfl rfl rfl zr62 ?_
  intro p8
  refine Xa ?_
  refine x_store0 [] rfl rfl rfl rfl sz62 rfl rfl ?_
  refine Ze (Zt (Zs (Zs (Zr ?_))))
  refine Xm ?_
  refine Xf 0 rfl u62 rfl sz9 ?_
  refine Xl rfl u9 rfl (at_ownL (vs := flV8 gs[k] (Value.slice A5 gs[k].subs.length c5)) (.head _) rfl) ?_
  refine x_callb rfl rfl rfl Tryz.func48 Zk rfl (fun w1 hw1 => k_ruled w1 (hw1.own_at (Bk p18 (ruledL.map Value.string) 9) (.tail _ (List.mem_append_right _ (.tail _ (.head _)))))) fun b36 hb36 => ?_
  refine Xb rfl (v_not rfl) fun b37 hb37 => ?_
  refine Ze (Zt ?_)
  refine w_cond rfl (fun hc37 => ?_) fun hc37 => ?_
  ·simp only [hb37, hb36, Qz, ne_eq] at hc37
   have hnr : ¬(amg ruledL gs[k].tag = true ∧ (hdF (stF fs).hs gs[k].subs).2 = true) := fun h => by rw [hc37] at h; cases h.1
   refine w_exit ?_
   refine t_exit ?_
   refine b_hit ?_
   refine Zt (Zr ?_)
   refine Xv rfl (v_addi rfl rfl rfl Zo) ?_
   refine Xm ?_
   refine Ze ?_
   exact l_norm (k + 1, es, cs, z) ⟨hkl, hkz, hzp, hC, hkeep (rewX_no hnr), hgood, fun j h hj => hnone j h (Nat.le_of_succ_le hj)⟩ (by simp only; omega) Zu (fun _ h => h.less (List.sublist_cons_self _ _) (fun _ h => h))
  simp only [hb37, hb36, Qz, ne_eq] at hc37
  have hru : amg ruledL gs[k].tag = true := hc37
  refine w_skip (Zt (Zs (Zr ?_)))
  refine Xm ?_
  refine Xv rfl (v_load_blk u62 rfl rfl (.head _) (by exact sz62)) ?_
  refine x_turn (τ := FM8) (v := .tuple #[Vi (hdF (stF fs).hs gs[k].subs).1, .bool (hdF (stF fs).hs gs[k].subs).2]) (fst := #[]) (cap := #[]) (fun z9 => FOK z9 fs ∧ z9.pf = x.pf) (fun z9 => (Bk p8 (flV8 gs[k] (Value.slice A5 gs[k].subs.length c5)) 62) :: (FO z9 fs ++ ((Bk gC cs 62) :: (Bk p18 (ruledL.map Value.string) 9) :: (Bk p4 [Value.int .u8 0, Value.int .u8 0, Value.slice none 0 0] 51) :: (Bk p3 [Value.int .u8 kd, Value.int .u8 lv, Value.slice (some ⟨gC, 0, none⟩) gs.length cpC] 51) :: (EOs 67 es ++ L)))) rfl rfl rfl Tryz.func60 Zk rfl (fun w1 hw1 => by
   simp only [Array.empty_append, Array.append_empty]
   have h := k_heading (L := (Bk p8 (flV8 gs[k] (Value.slice A5 gs[k].subs.length c5)) 62) :: ((Bk gC cs 62) :: (Bk p18 (ruledL.map Value.string) 9) :: (Bk p4 [Value.int .u8 0, Value.int .u8 0, Value.slice none 0 0] 51) :: (Bk p3 [Value.int .u8 kd, Value.int .u8 lv, Value.slice (some ⟨gC, 0, none⟩) gs.length cpC] 51) :: (EOs 67 es ++ L))) hkz hid hsn hs5 hsm5 h18 hro hL (hw1.perm List.perm_middle.symm)
   rw [hzp] at h
   exact h.mono fun e w2 ⟨h1, x', h2, h3⟩ => ⟨h1, x', h2, h3.perm List.perm_middle⟩) ?_
  rintro z1 ⟨hk1, hp1⟩
  refine Xm ?_
  refine Xe ?_
  refine Xb rfl (v_extract rfl rfl) fun b43 hb43 => ?_
  refine Xa ?_
  refine Xa ?_
  refine Ze (Zt (Zs (Zs (Zr ?_))))
  refine Xm ?_
  refine Xb rfl (v_not rfl) fun b45 hb45 => ?_
  refine Ze (Zt ?_)
  refine w_cond rfl (fun hc45 => ?_) fun hc45 => ?_
  ·simp only [hb45, hb43, Qz, ne_eq] at hc45
   have hnr : ¬(amg ruledL gs[k].tag = true ∧ (hdF (stF fs).hs gs[k].subs).2 = true) := fun h => by rw [hc45] at h; cases h.2
   refine w_exit ?_
   refine t_exit ?_
   refine b_hit ?_
   refine Zt (Zr ?_)
   refine Xv rfl (v_addi rfl rfl rfl Zo) ?_
   refine Xm ?_
   refine Ze ?_
   exact l_norm (k + 1, es, cs, z1) ⟨hkl, hk1, hp1, hC, hkeep (rewX_no hnr), hgood, fun j h hj => hnone j h (Nat.le_of_succ_le hj)⟩ (by simp only; omega) Zu (fun _ h => h.less (List.sublist_cons_self _ _) (fun _ h => h))
  simp only [hb45, hb43, Qz, ne_eq] at hc45
  have hhd : (hdF (stF fs).hs gs[k].subs).2 = true := hc45
  have hacy := fs_acy' hk.ok
  obtain ⟨g5, hg5⟩ := Option.isSome_iff_exists.1 (hdF_look hacy hhd)
  have hin5 : in64 (hdF (stF fs).hs gs[k].subs).1 := by obtain ⟨q1, q2⟩ := lkH_mem hg5; have q3 := (hacy.pos g5 q1).1; have q4 := hid g5 q1; rw [q2] at q3 q4; unfold in64; omega
  obtain ⟨nE, hE⟩ := hacy.res (wordsP (titF gs)) hg5
  obtain ⟨g6, hg6, _⟩ := hE.last
  have hin6 : in64 (resF (stF fs).hs (wordsP (titF gs)) (hdF (stF fs).hs gs[k].subs).1) := by obtain ⟨q1, q2⟩ := lkH_mem hg6; have q3 := (hacy.pos g6 q1).1; have q4 := hid g6 q1; rw [q2] at q3 q4; unfold in64; omega
  have hrs : resolveF (stF fs).hs (wordsP (titF gs)) (hdF (stF fs).hs gs[k].subs).1 = ((resF (stF fs).hs (wordsP (titF gs)) (hdF (stF fs).hs gs[k].subs).1), true) := by unfold resolveF; rw [hg5]
  obtain ⟨b5, o5, rfl, hD5, hokt, hc5⟩ := sb_cells hs5 (hdF_ne hhd)
  refine w_skip (Zt (Zs (Zr ?_)))
  refine Xm ?_
  refine Xm ?_
  refine Xm ?_
  refine x_turn (τ := FM8) (v := .tuple #[Vi (resF (stF fs).hs (wordsP (titF gs)) (hdF (stF fs).hs gs[k].subs).1), .bool true]) (fst := #[]) (cap := #[]) (fun z9 => FOK z9 fs ∧ z9.pf = x.pf) (fun z9 => (Bk p8 (flV8 gs[k] (Value.slice (some ⟨b5, o5, none⟩) gs[k].subs.length c5)) 62) :: (FO z9 fs ++ ((Bk gC cs 62) :: (Bk p18 (ruledL.map Value.string) 9) :: (Bk p4 [Value.int .u8 0, Value.int .u8 0, Value.slice none 0 0] 51) :: (Bk p3 [Value.int .u8 kd, Value.int .u8 lv, Value.slice (some ⟨gC, 0, none⟩) gs.length cpC] 51) :: (EOs 67 es ++ L)))) rfl rfl rfl Tryz.func18 Zk rfl (fun w1 hw1 => by
   simp only [Array.empty_append, Array.append_empty]
   have h := k_Resolve (t := titF gs) (L := (Bk p8 (flV8 gs[k] (Value.slice (some ⟨b5, o5, none⟩) gs[k].subs.length c5)) 62) :: ((Bk gC cs 62) :: (Bk p18 (ruledL.map Value.string) 9) :: (Bk p4 [Value.int .u8 0, Value.int .u8 0, Value.slice none 0 0] 51) :: (Bk p3 [Value.int .u8 kd, Value.int .u8 lv, Value.slice (some ⟨gC, 0, none⟩) gs.length cpC] 51) :: (EOs 67 es ++ L))) hk1 hin5 (by have := titF_size (fun f hf => (hsm f hf).1); omega) hro hL (hw1.perm List.perm_middle.symm)
   rw [hp1] at h
   rw [hrs] at h
   exact h.mono fun e w2 ⟨h1, x', h2, h3⟩ => ⟨h1, x', h2, h3.perm List.perm_middle⟩) ?_
  rintro z2 ⟨hk2, hp2⟩
  refine Xm ?_
  refine Xv (v := Vi (resF (stF fs).hs (wordsP (titF gs)) (hdF (stF fs).hs gs[k].subs).1)) rfl (v_extract rfl rfl) ?_
  refine Xb rfl (v_extract rfl rfl) fun b52 hb52 => ?_
  refine Xa ?_
  refine Ze (Zt (Zs (Zr ?_)))
  refine Xm ?_
  refine x_turnV (τ := SM) (fst := #[]) (cap := #[]) (fun y => Pt y.ps) (fun y => FOK { z2 with now := some y } fs) (fun y => (Bk p8 (flV8 gs[k] (Value.slice (some ⟨b5, o5, none⟩) gs[k].subs.length c5)) 62) :: (FO { z2 with now := some y } fs ++ ((Bk gC cs 62) :: (Bk p18 (ruledL.map Value.string) 9) :: (Bk p4 [Value.int .u8 0, Value.int .u8 0, Value.slice none 0 0] 51) :: (Bk p3 [Value.int .u8 kd, Value.int .u8 lv, Value.slice (some ⟨gC, 0, none⟩) gs.length cpC] 51) :: (EOs 67 es ++ L)))) rfl rfl rfl Tryz.func42 Zk rfl (fun w1 hw1 => by
   simp only [Array.empty_append, Array.append_empty]
   rw [← hp2]
   have h := k_state (L := (Bk p8 (flV8 gs[k] (Value.slice (some ⟨b5, o5, none⟩) gs[k].subs.length c5)) 62) :: ((Bk gC cs 62) :: (Bk p18 (ruledL.map Value.string) 9) :: (Bk p4 [Value.int .u8 0, Value.int .u8 0, Value.slice none 0 0] 51) :: (Bk p3 [Value.int .u8 kd, Value.int .u8 lv, Value.slice (some ⟨gC, 0, none⟩) gs.length cpC] 51) :: (EOs 67 es ++ L))) hk2 hro hL (hw1.perm List.perm_middle.symm)
   exact h.mono fun e w2 ⟨y, h1, h2, h3⟩ => ⟨y, h1, h2, h3.perm List.perm_middle⟩) ?_
  intro y hky
  have hl6 := lkS (hky.now y rfl).1 (resF (stF fs).hs (wordsP (titF gs)) (hdF (stF fs).hs gs[k].subs).1)
  obtain ⟨zz, hzz⟩ : ∃ zz, lkM8 y.hs (resF (stF fs).hs (wordsP (titF gs)) (hdF (stF fs).hs gs[k].subs).1) = some zz := by cases hq : lkM8 y.hs (resF (stF fs).hs (wordsP (titF gs)) (hdF (stF fs).hs gs[k].subs).1) with | some zz => exact ⟨zz, rfl⟩ | none => (rw [hq, hg6] at hl6; cases hl6)
  rw [hzz] at hl6
  have hnm : nameF (stF fs).hs (resF (stF fs).hs (wordsP (titF gs)) (hdF (stF fs).hs gs[k].subs).1) = (zz.g.name, true) := by unfold nameF; rw [hl6]; rfl
  obtain ⟨a6, c6, hs6, _, _⟩ := lkM8_split hzz
  have hzm : zz ∈ y.hs := by rw [hs6]; simp
  have hokn : okS zz.g.name := by have q1 := (fs_sz hk2 zz.g (by have q2 := (lkH_mem hl6).1; exact q2)).1; unfold okS; omega
  refine Xn ?_
  refine Xf _ rfl u91 rfl sz88 ?_
  refine Xl rfl u88 rfl (at_ownL (vs := smC y (stF fs).ref.length) (.tail _ (List.mem_append_left _ (.tail _ (List.mem_append_right _ (.head _))))) rfl) ?_
  refine Xm ?_
  refine Xv (v := Pt zz.p) rfl (v_lookupH u88 (Maps.int_keyed u3) zr86 rfl rfl (Maps.keyOf_int_mk u3 (wf_in hin6)) (map_own (.tail _ (List.mem_append_left _ (.tail _ (List.mem_append_right _ (.tail _ (.head _))))))) (hky.now y rfl).1.mc.f (by rw [hm_get, hzz]; rfl)) ?_
  refine Xn ?_
  refine Xf _ rfl u97 rfl sz9 ?_
  refine Xl rfl u9 rfl (at_ownL (vs := hmC zz) (.tail _ (List.mem_append_left _ (.tail _ (List.mem_append_right _ (.tail _ (.tail _ (List.mem_append_left _ (HO_head hzm)))))))) rfl) ?_
  refine Xv (v := Value.agg (sbC (⟨97, zz.g.name⟩ : Sb)).toArray) rfl (v_buildL (cs := sbC (⟨97, zz.g.name⟩ : Sb)) (places := [(0, 1), (1, 1)]) u67 zr67 Zk rfl rfl) ?_
  refine x_alloc rfl rfl rfl zr67 ?_
  intro p11
  refine x_store0 [] rfl rfl rfl rfl sz67 rfl rfl ?_
  refine Ze (Zt (Zs (Zr ?_)))
  refine Xm ?_
  refine x_callv rfl rfl rfl Tryz.func61 Zk rfl (fun w1 hw1 => k_Itoa (resF (stF fs).hs (wordsP (titF gs)) (hdF (stF fs).hs gs[k].subs).1) w1 hin6 (hL.later (hw1.base hro))) ?_
  refine Xv (v := Value.agg (sbC (⟨48, itoaS (resF (stF fs).hs (wordsP (titF gs)) (hdF (stF fs).hs gs[k].subs).1)⟩ : Sb)).toArray) rfl (v_buildL (cs := sbC (⟨48, itoaS (resF (stF fs).hs (wordsP (titF gs)) (hdF (stF fs).hs gs[k].subs).1)⟩ : Sb)) (places := [(0, 1), (1, 1)]) u67 zr67 Zk rfl rfl) ?_
  refine x_alloc rfl rfl rfl zr67 ?_
  intro p12
  refine x_store0 [] rfl rfl rfl rfl sz67 rfl rfl ?_
  refine Ze (Zt (Zs (Zr ?_)))
  refine Xf 3 rfl u62 rfl sz60 ?_
  refine Xl rfl u60 rfl (at_ownL (vs := flV8 gs[k] (Value.slice (some ⟨b5, o5, none⟩) gs[k].subs.length c5)) (.tail _ (.tail _ (.head _))) rfl) ?_
  refine x_own (τ := RowS) (fun R' => rowV R' gs[k].subs.length) (fun R' => rowOK 2 R' gs[k].subs.length (gs[k].subs.flatMap sbC)) (fun R' => rowO 67 R' ++ ((Bk p12 (sbC (⟨48, itoaS (resF (stF fs).hs (wordsP (titF gs)) (hdF (stF fs).hs gs[k].subs).1)⟩ : Sb)) 67) :: (Bk p11 (sbC (⟨97, zz.g.name⟩ : Sb)) 67) :: (Bk p8 (flV8 gs[k] (Value.slice (some ⟨b5, o5, none⟩) gs[k].subs.length c5)) 62) :: (FO { z2 with now := some y } fs ++ ((Bk gC cs 62) :: (Bk p18 (ruledL.map Value.string) 9) :: (Bk p4 [Value.int .u8 0, Value.int .u8 0, Value.slice none 0 0] 51) :: (Bk p3 [Value.int .u8 kd, Value.int .u8 lv, Value.slice (some ⟨gC, 0, none⟩) gs.length cpC] 51) :: (EOs 67 es ++ L))))) rfl rfl rfl Tryz.func62 Zk rfl (fun w1 hw1 => (k_CloneS (news := gs[k].subs.flatMap sbC) w1 (flC_len (c := sbC) (m := 2) (fun _ => rfl) _) (fun j hj => at_ro hsn hD5 (hc5 j hj) w1 hw1) (sbC_one _) (by have := hsm5.1; omega)).mono fun e w2 ⟨R', h1, h2, h3⟩ => ⟨R', h1, h3.base (by simp), h2, hw1.join2 h3⟩) fun S1 hS1 => ?_
  obtain ⟨g1, cs1, c1, rfl, _⟩ := hS1.cell (j := 0) (by rw [flC_len (c := sbC) (m := 2) (fun _ => rfl)]; have := List.length_pos_iff.2 (hdF_ne hhd); omega)
  refine Xf 3 rfl u62 rfl sz60 ?_
  refine x_store (cs := flV8 gs[k] (Value.slice (some ⟨b5, o5, none⟩) gs[k].subs.length c5)) (off := 3) (e := 62) (l2 := FO { z2 with now := some y } fs ++ ((Bk gC cs 62) :: (Bk p18 (ruledL.map Value.string) 9) :: (Bk p4 [Value.int .u8 0, Value.int .u8 0, Value.slice none 0 0] 51) :: (Bk p3 [Value.int .u8 kd, Value.int .u8 lv, Value.slice (some ⟨gC, 0, none⟩) gs.length cpC] 51) :: (EOs 67 es ++ L))) [(g1, _), (p12, _), (p11, _)] rfl rfl rfl rfl sz60 rfl (by show 3 + 1 ≤ 4; decide) ?_
  refine Ze (Zt ?_)
  refine w_seq_cut (σ := RowS) (fun S2 => rowOK 2 S2 (putS 97 zz.g.name true gs[k].subs).length ((putS 97 zz.g.name true gs[k].subs).flatMap sbC)) (fun S2 => [(0, Pt x.pf), (3, Pt p3), (4, Pt p4), (5, Value.slice (some ⟨p18, 0, none⟩) 5 5), (6, Value.string (titF gs)), (26, Value.slice (some ⟨gC, 0, none⟩) gs.length cpC), (27, Vi (gs.length : Nat)), (28, Vi (k : Nat)), (7, Vi (k : Nat)), (8, Pt p8), (11, Pt p11), (12, Pt p12)]) (fun S2 => rowO 67 S2 ++ ((Bk p12 (sbC (⟨48, itoaS (resF (stF fs).hs (wordsP (titF gs)) (hdF (stF fs).hs gs[k].subs).1)⟩ : Sb)) 67) :: (Bk p11 (sbC (⟨97, zz.g.name⟩ : Sb)) 67) :: (Bk p8 (flV8 gs[k] (rowV S2 (putS 97 zz.g.name true gs[k].subs).length)) 62) :: (FO { z2 with now := some y } fs ++ ((Bk gC cs 62) :: (Bk p18 (ruledL.map Value.string) 9) :: (Bk p4 [Value.int .u8 0, Value.int .u8 0, Value.slice none 0 0] 51) :: (Bk p3 [Value.int .u8 kd, Value.int .u8 lv, Value.slice (some ⟨gC, 0, none⟩) gs.length cpC] 51) :: (EOs 67 es ++ L))))) (fun S2 => ro) ?_ ?_
  ·refine w_seq ?_
   refine Zr ?_
   refine Xv rfl (v_load_blk u62 rfl rfl (.tail _ (.tail _ (.tail _ (.head _)))) (by exact sz62)) ?_
   refine x_callv rfl rfl rfl Tryz.func63 Zk rfl (fun w1 hw1 => k_sub (v := Value.slice (some ⟨g1, 0, none⟩) gs[k].subs.length c1) gs[k] 97 w1 (srow_rd (T := 67) (D := fun _ => True) hS1 hok5.2 hw1 (fun p hp => by rw [List.mem_singleton.1 hp]; exact .head _) (fun _ _ => trivial))) ?_
   refine Xa ?_
   refine Ze (Zt (Zs (Zr ?_)))
   refine Xm ?_
   refine Xb rfl (v_geq rfl rfl) fun b74 hb74 => ?_
   refine Ze (Zt ?_)
   refine w_cond rfl (fun hc74 => ?_) fun hc74 => ?_
   ·simp only [hb74, Qz, ne_eq] at hc74
    obtain ⟨i, hi, hsi, _, _⟩ := subI_at hc74
    rw [hsi]
    refine Zr ?_
    refine Xf 3 rfl u62 rfl sz60 ?_
    refine Xl rfl u60 rfl (at_ownL (vs := flV8 gs[k] (Value.slice (some ⟨g1, 0, none⟩) gs[k].subs.length c1)) (.tail _ (.tail _ (.tail _ (.head _)))) rfl) ?_
    refine Xm ?_
    refine Xv rfl (v_load_blk u67 rfl rfl (.tail _ (.tail _ (.head _))) (by exact sz67)) ?_
    refine Xv rfl (v_indexAddr (j := i) u60 sz67 rfl rfl hi (Nat.zero_add _)) ?_
    refine x_store (cs := cs1) (off := i * 2) (e := 67) [] rfl rfl rfl rfl sz67 rfl (by obtain ⟨_, q2, _, q4, _⟩ := hS1; dsimp only at q2 q4; omega) ?_
    refine Ze ?_
    have hS2 := row_put (c := sbC) (m := 2) (fun _ => rfl) hS1 hi (⟨97, zz.g.name⟩ : Sb)
    exact c_norm (some (g1, _, c1)) (by rw [putS_at hsi]; exact hS2) Zu (fun w1 h => h.to (by rw [putS_at hsi, List.length_set]; rfl))
   simp only [hb74, Qz, ne_eq] at hc74
   skip
   refine Zr ?_
   refine Xf 3 rfl u62 rfl sz60 ?_
   refine Xl rfl u60 rfl (at_ownL (vs := flV8 gs[k] (Value.slice (some ⟨g1, 0, none⟩) gs[k].subs.length c1)) (.tail _ (.tail _ (.tail _ (.head _)))) rfl) ?_
   refine Xv rfl (v_load_blk u67 rfl rfl (.tail _ (.tail _ (.head _))) (by exact sz67)) ?_
   refine x_buildSliceL (cs := sbC (⟨97, zz.g.name⟩ : Sb)) rfl rfl rfl u60 sz67 zr67 rfl rfl rfl ?_
   intro p83
   refine x_turnV (τ := RowS) (fst := #[]) (cap := #[]) (fun R' => rowV R' (gs[k].subs.length + 1)) (fun R' => rowOK 2 R' (gs[k].subs.length + 1) (sbsC (gs[k].subs.take 0 ++ (⟨97, zz.g.name⟩ : Sb) :: gs[k].subs.drop 0))) (fun R' => (Bk p83 (sbC (⟨97, zz.g.name⟩ : Sb)) 67) :: (rowO 67 R' ++ ((Bk p12 (sbC (⟨48, itoaS (resF (stF fs).hs (wordsP (titF gs)) (hdF (stF fs).hs gs[k].subs).1)⟩ : Sb)) 67) :: (Bk p11 (sbC (⟨97, zz.g.name⟩ : Sb)) 67) :: (Bk p8 (flV8 gs[k] (Value.slice (some ⟨g1, 0, none⟩) gs[k].subs.length c1)) 62) :: (FO { z2 with now := some y } fs ++ ((Bk gC cs 62) :: (Bk p18 (ruledL.map Value.string) 9) :: (Bk p4 [Value.int .u8 0, Value.int .u8 0, Value.slice none 0 0] 51) :: (Bk p3 [Value.int .u8 kd, Value.int .u8 lv, Value.slice (some ⟨gC, 0, none⟩) gs.length cpC] 51) :: (EOs 67 es ++ L)))))) rfl rfl rfl Tryz.func64 Zk rfl (fun w1 hw1 => by
    simp only [Array.empty_append, Array.append_empty]
    exact k_InsertS (R := some (g1, cs1, c1)) gs[k].subs 0 (⟨97, zz.g.name⟩ : Sb) hw1 hS1 (Nat.zero_le _) (by have := hsm5.1; omega)) ?_
   intro S2 hS2
   refine Xf 3 rfl u62 rfl sz60 ?_
   refine x_store (cs := flV8 gs[k] (Value.slice (some ⟨g1, 0, none⟩) gs[k].subs.length c1)) (off := 3) (e := 62) (l2 := FO { z2 with now := some y } fs ++ ((Bk gC cs 62) :: (Bk p18 (ruledL.map Value.string) 9) :: (Bk p4 [Value.int .u8 0, Value.int .u8 0, Value.slice none 0 0] 51) :: (Bk p3 [Value.int .u8 kd, Value.int .u8 lv, Value.slice (some ⟨gC, 0, none⟩) gs.length cpC] 51) :: (EOs 67 es ++ L))) ((Bk p83 (sbC (⟨97, zz.g.name⟩ : Sb)) 67) :: (rowO 67 S2 ++ [(Bk p12 (sbC (⟨48, itoaS (resF (stF fs).hs (wordsP (titF gs)) (hdF (stF fs).hs gs[k].subs).1)⟩ : Sb)) 67), (Bk p11 (sbC (⟨97, zz.g.name⟩ : Sb)) 67)])) rfl rfl rfl (by simp) sz60 rfl (by show 3 + 1 ≤ 4; decide) ?_
   refine Ze ?_
   exact c_norm S2 (by rw [putS_front hc74]; exact hS2) Zu (fun w1 h => by
    rw [putS_front hc74]
    simp only [List.append_assoc, List.cons_append, List.nil_append] at h
    exact h.less (List.sublist_cons_self _ _) (fun _ h => h))
  rintro S2 hS2
  refine w_state ([(0, Pt x.pf), (3, Pt p3), (4, Pt p4), (5, Value.slice (some ⟨p18, 0, none⟩) 5 5), (6, Value.string (titF gs)), (26, Value.slice (some ⟨gC, 0, none⟩) gs.length cpC), (27, Vi (gs.length : Nat)), (28, Vi (k : Nat)), (7, Vi (k : Nat)), (8, Pt p8), (11, Pt p11), (12, Pt p12)]) (rowO 67 S2 ++ ((Bk p12 (sbC (⟨48, itoaS (resF (stF fs).hs (wordsP (titF gs)) (hdF (stF fs).hs gs[k].subs).1)⟩ : Sb)) 67) :: (Bk p11 (sbC (⟨97, zz.g.name⟩ : Sb)) 67) :: (Bk p8 (flV8 gs[k] (rowV S2 (putS 97 zz.g.name true gs[k].subs).length)) 62) :: (FO { z2 with now := some y } fs ++ ((Bk gC cs 62) :: (Bk p18 (ruledL.map Value.string) 9) :: (Bk p4 [Value.int .u8 0, Value.int .u8 0, Value.slice none 0 0] 51) :: (Bk p3 [Value.int .u8 kd, Value.int .u8 lv, Value.slice (some ⟨gC, 0, none⟩) gs.length cpC] 51) :: (EOs 67 es ++ L))))) (ro) ?_
  refine w_seq_cut (σ := RowS) (fun S3 => rowOK 2 S3 (putS 48 (itoaS (resF (stF fs).hs (wordsP (titF gs)) (hdF (stF fs).hs gs[k].subs).1)) false (putS 97 zz.g.name true gs[k].subs)).length ((putS 48 (itoaS (resF (stF fs).hs (wordsP (titF gs)) (hdF (stF fs).hs gs[k].subs).1)) false (putS 97 zz.g.name true gs[k].subs)).flatMap sbC)) (fun S3 => [(0, Pt x.pf), (3, Pt p3), (4, Pt p4), (5, Value.slice (some ⟨p18, 0, none⟩) 5 5), (6, Value.string (titF gs)), (26, Value.slice (some ⟨gC, 0, none⟩) gs.length cpC), (27, Vi (gs.length : Nat)), (28, Vi (k : Nat)), (7, Vi (k : Nat)), (8, Pt p8), (11, Pt p11), (12, Pt p12)]) (fun S3 => rowO 67 S3 ++ ((Bk p12 (sbC (⟨48, itoaS (resF (stF fs).hs (wordsP (titF gs)) (hdF (stF fs).hs gs[k].subs).1)⟩ : Sb)) 67) :: (Bk p11 (sbC (⟨97, zz.g.name⟩ : Sb)) 67) :: (Bk p8 (flV8 gs[k] (rowV S3 (putS 48 (itoaS (resF (stF fs).hs (wordsP (titF gs)) (hdF (stF fs).hs gs[k].subs).1)) false (putS 97 zz.g.name true gs[k].subs)).length)) 62) :: (FO { z2 with now := some y } fs ++ ((Bk gC cs 62) :: (Bk p18 (ruledL.map Value.string) 9) :: (Bk p4 [Value.int .u8 0, Value.int .u8 0, Value.slice none 0 0] 51) :: (Bk p3 [Value.int .u8 kd, Value.int .u8 lv, Value.slice (some ⟨gC, 0, none⟩) gs.length cpC] 51) :: (EOs 67 es ++ L))))) (fun S3 => ro) ?_ ?_
  ·refine w_seq ?_
   refine Zr ?_
   refine Xv rfl (v_load_blk u62 rfl rfl (List.mem_append_right _ (.tail _ (.tail _ (.head _)))) (by exact sz62)) ?_
   refine x_callv rfl rfl rfl Tryz.func63 Zk rfl (fun w1 hw1 => k_sub (v := rowV S2 (putS 97 zz.g.name true gs[k].subs).length) gs[k] 48 w1 (srow_rd (T := 67) (D := fun _ => True) hS2 (fun s hs => (putS_mem hs).elim (hok5.2 s) (fun h => by rw [h]; exact hokn)) hw1 (fun p hp => List.mem_append_left _ hp) (fun _ _ => trivial))) ?_
   refine Xa ?_
   refine Ze (Zt (Zs (Zr ?_)))
   refine Xm ?_
   refine Xb rfl (v_geq rfl rfl) fun b89 hb89 => ?_
   refine Ze (Zt ?_)
   refine w_cond rfl (fun hc89 => ?_) fun hc89 => ?_
   ·simp only [hb89, Qz, ne_eq] at hc89
    obtain ⟨i2, hi2, hsi2, _, _⟩ := subI_at hc89
    rw [hsi2]
    obtain ⟨g2, cs2, c2, rfl, _⟩ := hS2.cell (j := 0) (by rw [flC_len (c := sbC) (m := 2) (fun _ => rfl)]; omega)
    refine Zr ?_
    refine Xf 3 rfl u62 rfl sz60 ?_
    refine Xl rfl u60 rfl (at_ownL (vs := flV8 gs[k] (Value.slice (some ⟨g2, 0, none⟩) (putS 97 zz.g.name true gs[k].subs).length c2)) (List.mem_append_right _ (.tail _ (.tail _ (.head _)))) rfl) ?_
    refine Xm ?_
    refine Xv rfl (v_load_blk u67 rfl rfl (List.mem_append_right _ (.head _)) (by exact sz67)) ?_
    refine Xv rfl (v_indexAddr (j := i2) u60 sz67 rfl rfl hi2 (Nat.zero_add _)) ?_
    refine x_store (cs := cs2) (off := i2 * 2) (e := 67) [] rfl rfl rfl rfl sz67 rfl (by obtain ⟨_, q2, _, q4, _⟩ := hS2; dsimp only at q2 q4; omega) ?_
    refine Ze ?_
    have hS3 := row_put (c := sbC) (m := 2) (fun _ => rfl) hS2 hi2 (⟨48, itoaS (resF (stF fs).hs (wordsP (titF gs)) (hdF (stF fs).hs gs[k].subs).1)⟩ : Sb)
    exact c_norm (some (g2, _, c2)) (by rw [putS_at hsi2]; exact hS3) Zu (fun w1 h => h.to (by rw [putS_at (b := false) hsi2, List.length_set]; rfl))
   simp only [hb89, Qz, ne_eq] at hc89
   skip
   refine Zr ?_
   refine Xf 3 rfl u62 rfl sz60 ?_
   refine Xl rfl u60 rfl (at_ownL (vs := flV8 gs[k] (rowV S2 (putS 97 zz.g.name true gs[k].subs).length)) (List.mem_append_right _ (.tail _ (.tail _ (.head _)))) rfl) ?_
   refine Xv rfl (v_load_blk u67 rfl rfl (List.mem_append_right _ (.head _)) (by exact sz67)) ?_
   refine x_buildSliceL (cs := sbC (⟨48, itoaS (resF (stF fs).hs (wordsP (titF gs)) (hdF (stF fs).hs gs[k].subs).1)⟩ : Sb)) rfl rfl rfl u60 sz67 zr67 rfl rfl rfl ?_
   intro p98
   refine x_append (e := 67) [(Bk p98 (sbC (⟨48, itoaS (resF (stF fs).hs (wordsP (titF gs)) (hdF (stF fs).hs gs[k].subs).1)⟩ : Sb)) 67)] (l2 := (Bk p12 (sbC (⟨48, itoaS (resF (stF fs).hs (wordsP (titF gs)) (hdF (stF fs).hs gs[k].subs).1)⟩ : Sb)) 67) :: (Bk p11 (sbC (⟨97, zz.g.name⟩ : Sb)) 67) :: (Bk p8 (flV8 gs[k] (rowV S2 (putS 97 zz.g.name true gs[k].subs).length)) 62) :: (FO { z2 with now := some y } fs ++ ((Bk gC cs 62) :: (Bk p18 (ruledL.map Value.string) 9) :: (Bk p4 [Value.int .u8 0, Value.int .u8 0, Value.slice none 0 0] 51) :: (Bk p3 [Value.int .u8 kd, Value.int .u8 lv, Value.slice (some ⟨gC, 0, none⟩) gs.length cpC] 51) :: (EOs 67 es ++ L)))) S2 (len := (putS 97 zz.g.name true gs[k].subs).length) (xs := (putS 97 zz.g.name true gs[k].subs).flatMap sbC) rfl rfl rfl rfl rfl hS2 u60 ap67 rfl rfl (m := 1) (news := sbC (⟨48, itoaS (resF (stF fs).hs (wordsP (titF gs)) (hdF (stF fs).hs gs[k].subs).1)⟩ : Sb)) (fun i hi => at_ownL (vs := sbC (⟨48, itoaS (resF (stF fs).hs (wordsP (titF gs)) (hdF (stF fs).hs gs[k].subs).1)⟩ : Sb)) (.head _) (by rw [Nat.zero_add]; exact List.getElem?_eq_getElem hi)) rfl (by have q1 := hsm5.1; have q2 := putS_len (c := 97) (t := zz.g.name) (b := true) (l := gs[k].subs); simp only [maxLen]; omega) (by have q1 := hsm5.1; have q2 := putS_len (c := 97) (t := zz.g.name) (b := true) (l := gs[k].subs); omega) fun S3 hS3 => ?_
   refine Xf 3 rfl u62 rfl sz60 ?_
   refine x_store (cs := flV8 gs[k] (rowV S2 (putS 97 zz.g.name true gs[k].subs).length)) (off := 3) (e := 62) (l2 := FO { z2 with now := some y } fs ++ ((Bk gC cs 62) :: (Bk p18 (ruledL.map Value.string) 9) :: (Bk p4 [Value.int .u8 0, Value.int .u8 0, Value.slice none 0 0] 51) :: (Bk p3 [Value.int .u8 kd, Value.int .u8 lv, Value.slice (some ⟨gC, 0, none⟩) gs.length cpC] 51) :: (EOs 67 es ++ L))) ((Bk p98 (sbC (⟨48, itoaS (resF (stF fs).hs (wordsP (titF gs)) (hdF (stF fs).hs gs[k].subs).1)⟩ : Sb)) 67) :: (rowO 67 S3 ++ [(Bk p12 (sbC (⟨48, itoaS (resF (stF fs).hs (wordsP (titF gs)) (hdF (stF fs).hs gs[k].subs).1)⟩ : Sb)) 67), (Bk p11 (sbC (⟨97, zz.g.name⟩ : Sb)) 67)])) rfl rfl rfl (by simp) sz60 rfl (by show 3 + 1 ≤ 4; decide) ?_
   refine Ze ?_
   exact c_norm S3 (by rw [putS_back hc89, List.length_append, List.flatMap_append]; simpa using hS3) Zu (fun w1 h => by
    rw [putS_back hc89, List.length_append]
    simp only [List.append_assoc, List.cons_append, List.nil_append] at h
    exact h.less (List.sublist_cons_self _ _) (fun _ h => h))
  rintro S3 hS3
  refine w_state ([(0, Pt x.pf), (3, Pt p3), (4, Pt p4), (5, Value.slice (some ⟨p18, 0, none⟩) 5 5), (6, Value.string (titF gs)), (26, Value.slice (some ⟨gC, 0, none⟩) gs.length cpC), (27, Vi (gs.length : Nat)), (28, Vi (k : Nat)), (7, Vi (k : Nat)), (8, Pt p8), (11, Pt p11), (12, Pt p12)]) (rowO 67 S3 ++ ((Bk p12 (sbC (⟨48, itoaS (resF (stF fs).hs (wordsP (titF gs)) (hdF (stF fs).hs gs[k].subs).1)⟩ : Sb)) 67) :: (Bk p11 (sbC (⟨97, zz.g.name⟩ : Sb)) 67) :: (Bk p8 (flV8 gs[k] (rowV S3 (putS 48 (itoaS (resF (stF fs).hs (wordsP (titF gs)) (hdF (stF fs).hs gs[k].subs).1)) false (putS 97 zz.g.name true gs[k].subs)).length)) 62) :: (FO { z2 with now := some y } fs ++ ((Bk gC cs 62) :: (Bk p18 (ruledL.map Value.string) 9) :: (Bk p4 [Value.int .u8 0, Value.int .u8 0, Value.slice none 0 0] 51) :: (Bk p3 [Value.int .u8 kd, Value.int .u8 lv, Value.slice (some ⟨gC, 0, none⟩) gs.length cpC] 51) :: (EOs 67 es ++ L))))) (ro) ?_
  refine Zr ?_
  refine Xf 2 rfl u51 rfl sz49 ?_
  refine Xl rfl u49 rfl (at_ownL (vs := [Value.int .u8 kd, Value.int .u8 lv, Value.slice (some ⟨gC, 0, none⟩) gs.length cpC]) (List.mem_append_right _ (.tail _ (.tail _ (.tail _ (List.mem_append_right _ (.tail _ (.tail _ (.tail _ (.head _))))))))) rfl) ?_
  refine Xm ?_
  refine Xv rfl (v_load_blk u62 rfl rfl (List.mem_append_right _ (.tail _ (.tail _ (.head _)))) (by exact sz62)) ?_
  refine Xv rfl (v_indexAddr (j := k) u49 sz62 rfl rfl hkl (Nat.zero_add _)) ?_
  refine x_store (cs := cs) (off := k * 4) (e := 62) (l2 := (Bk p18 (ruledL.map Value.string) 9) :: (Bk p4 [Value.int .u8 0, Value.int .u8 0, Value.slice none 0 0] 51) :: (Bk p3 [Value.int .u8 kd, Value.int .u8 lv, Value.slice (some ⟨gC, 0, none⟩) gs.length cpC] 51) :: (EOs 67 es ++ L)) (rowO 67 S3 ++ ((Bk p12 (sbC (⟨48, itoaS (resF (stF fs).hs (wordsP (titF gs)) (hdF (stF fs).hs gs[k].subs).1)⟩ : Sb)) 67) :: (Bk p11 (sbC (⟨97, zz.g.name⟩ : Sb)) 67) :: (Bk p8 (flV8 gs[k] (rowV S3 (putS 48 (itoaS (resF (stF fs).hs (wordsP (titF gs)) (hdF (stF fs).hs gs[k].subs).1)) false (putS 97 zz.g.name true gs[k].subs)).length)) 62) :: FO { z2 with now := some y } fs)) rfl rfl rfl (by simp) sz62 rfl (by obtain ⟨_, q2, _, q4, _⟩ := hC; dsimp only at q2 q4; omega) ?_
  refine Ze (b_norm (Zt (Zr ?_)))
  refine Xv rfl (v_addi rfl rfl rfl Zo) ?_
  refine Xm ?_
  refine Ze ?_
  have he9 : (⟨{ gs[k] with subs := (putS 48 (itoaS (resF (stF fs).hs (wordsP (titF gs)) (hdF (stF fs).hs gs[k].subs).1)) false (putS 97 zz.g.name true gs[k].subs)) }, rowV S3 (putS 48 (itoaS (resF (stF fs).hs (wordsP (titF gs)) (hdF (stF fs).hs gs[k].subs).1)) false (putS 97 zz.g.name true gs[k].subs)).length, S3⟩ : FE).f = (rewX (stF fs).hs (titF gs)) gs[k] := by rw [rewX_yes hru hhd]; unfold rewS; rw [hnm]
  have hok9 : okFl (⟨{ gs[k] with subs := (putS 48 (itoaS (resF (stF fs).hs (wordsP (titF gs)) (hdF (stF fs).hs gs[k].subs).1)) false (putS 97 zz.g.name true gs[k].subs)) }, rowV S3 (putS 48 (itoaS (resF (stF fs).hs (wordsP (titF gs)) (hdF (stF fs).hs gs[k].subs).1)) false (putS 97 zz.g.name true gs[k].subs)).length, S3⟩ : FE).f := ⟨hok5.1, fun s hs => (putS_mem hs).elim (fun h => (putS_mem h).elim (hok5.2 s) (fun h => by rw [h]; exact hokn)) (fun h => by rw [h]; have q1 := itoaS_size hin6; show okS (itoaS _); unfold okS; omega)⟩
  exact l_norm (k + 1, es.set k (⟨{ gs[k] with subs := (putS 48 (itoaS (resF (stF fs).hs (wordsP (titF gs)) (hdF (stF fs).hs gs[k].subs).1)) false (putS 97 zz.g.name true gs[k].subs)) }, rowV S3 (putS 48 (itoaS (resF (stF fs).hs (wordsP (titF gs)) (hdF (stF fs).hs gs[k].subs).1)) false (putS 97 zz.g.name true gs[k].subs)).length, S3⟩ : FE), cs.take (k * 4) ++ feC (⟨{ gs[k] with subs := (putS 48 (itoaS (resF (stF fs).hs (wordsP (titF gs)) (hdF (stF fs).hs gs[k].subs).1)) false (putS 97 zz.g.name true gs[k].subs)) }, rowV S3 (putS 48 (itoaS (resF (stF fs).hs (wordsP (titF gs)) (hdF (stF fs).hs gs[k].subs).1)) false (putS 97 zz.g.name true gs[k].subs)).length, S3⟩ : FE) ++ cs.drop (k * 4 + 4), { z2 with now := some y }) ⟨hkl, hky, hp2, row_put (c := feC) (m := 4) (fun _ => rfl) hC hke (⟨{ gs[k] with subs := (putS 48 (itoaS (resF (stF fs).hs (wordsP (titF gs)) (hdF (stF fs).hs gs[k].subs).1)) false (putS 97 zz.g.name true gs[k].subs)) }, rowV S3 (putS 48 (itoaS (resF (stF fs).hs (wordsP (titF gs)) (hdF (stF fs).hs gs[k].subs).1)) false (putS 97 zz.g.name true gs[k].subs)).length, S3⟩ : FE), hput _ he9, fun e he => (List.mem_or_eq_of_mem_set he).elim (hgood e) (fun h => by rw [h]; exact ⟨.inr ⟨rfl, hS3⟩, hok9⟩), fun j h hj => by
   have hj2 : j < es.length := by rw [List.length_set] at h; exact h
   dsimp only at hj
   have q1 : (es.set k (⟨{ gs[k] with subs := (putS 48 (itoaS (resF (stF fs).hs (wordsP (titF gs)) (hdF (stF fs).hs gs[k].subs).1)) false (putS 97 zz.g.name true gs[k].subs)) }, rowV S3 (putS 48 (itoaS (resF (stF fs).hs (wordsP (titF gs)) (hdF (stF fs).hs gs[k].subs).1)) false (putS 97 zz.g.name true gs[k].subs)).length, S3⟩ : FE))[j] = es[j] := List.getElem_set_ne (by omega) _
   dsimp only
   rw [q1]
   exact hnone j hj2 (by omega)⟩ (by simp only; omega) Zu (fun w1 h => (((h.to (List.append_assoc _ _ _)).less ((List.Sublist.refl _).append (((List.sublist_cons_self _ _).trans (List.sublist_cons_self _ _)).trans (List.sublist_cons_self _ _))) (fun _ h => h)).perm (rw_perm (X := [_, _, _, _]))).perm (List.Perm.append_left _ (List.Perm.append_left [_, _, _, _] (EO_setL hke hS5 (⟨{ gs[k] with subs := (putS 48 (itoaS (resF (stF fs).hs (wordsP (titF gs)) (hdF (stF fs).hs gs[k].subs).1)) false (putS 97 zz.g.name true gs[k].subs)) }, rowV S3 (putS 48 (itoaS (resF (stF fs).hs (wordsP (titF gs)) (hdF (stF fs).hs gs[k].subs).1)) false (putS 97 zz.g.name true gs[k].subs)).length, S3⟩ : FE) L))))
 simp only [hb29, Qz, ne_eq] at hc29
 obtain rfl : k = gs.length := by omega
 refine w_exit ?_
 refine t_exit ?_
 refine t_exit ?_
 refine b_hit ?_
 refine Zt (Zs (Zr ?_))
 refine Xv rfl (v_load_blk u51 rfl rfl (List.mem_append_right _ (.tail _ (.tail _ (.tail _ (.head _))))) (by exact sz51)) ?_
 refine x_store (cs := [Value.int .u8 0, Value.int .u8 0, Value.slice none 0 0]) (off := 0) (e := 51) (l2 := (Bk p3 [Value.int .u8 kd, Value.int .u8 lv, Value.slice (some ⟨gC, 0, none⟩) gs.length cpC] 51) :: (EOs 67 es ++ L)) (FO z fs ++ [(Bk gC cs 62), (Bk p18 (ruledL.map Value.string) 9)]) rfl rfl rfl (by simp) sz51 rfl (by show 0 + 3 ≤ 3; decide) ?_
 refine Ze (Zt (w_ret ?_))
 have hmf : es.map (·.f) = rewF (stF fs).hs gs := by rw [hmap, List.take_length, List.drop_length, List.append_nil]; rfl
 refine retc (cs := #[.int .u8 kd, .int .u8 lv, Value.slice (some ⟨gC, 0, none⟩) gs.length cpC]) (e := 51) rfl rfl (List.mem_append_right _ (.head _)) u51 rfl Zk (fun w' hm' => ?_)
 have hm2 : Mem w' (([(Bk gC cs 62), (Bk p18 (ruledL.map Value.string) 9), (Bk p4 [Value.int .u8 kd, Value.int .u8 lv, Value.slice (some ⟨gC, 0, none⟩) gs.length cpC] 51), (Bk p3 [Value.int .u8 kd, Value.int .u8 lv, Value.slice (some ⟨gC, 0, none⟩) gs.length cpC] 51)] ++ EOs 67 es) ++ (FO z fs ++ L)) ro := (hm'.to (by simp only [List.append_assoc, List.cons_append, List.nil_append]; rfl)).perm (fin_perm (X := [_, _, _, _]))
 have hdj := hm2.disj
 refine ⟨z, Value.slice (some ⟨gC, 0, none⟩) gs.length cpC, rfl, ⟨hkz, hzp⟩, ?_, hm2.less (List.sublist_append_right _ _) (fun _ h => h)⟩
 rw [← hmf]
 rw [← hesl]
 exact fe_rd (TF := 62) (T := 67) hm2 hsn hC hgood (fun p hp => by rw [List.mem_singleton.1 hp]; exact .head _) (fun e he p hp => List.mem_append_left _ (List.mem_append_right _ (EO_mem he hp))) (fun k hD hlt p hp he => by have q1 := hm2.apart p (List.mem_append_right _ hp) _ hsn (by rw [he]; exact hD); dsimp only at q1; omega) (fun e he p hp q hq => hdj p (List.mem_append_right _ (EO_mem he hp)) q hq) (fun p hp q hq => hdj p (List.mem_append_left _ (by rw [List.mem_singleton.1 hp]; exact .head _)) q hq)
open Go.RowKit Go.PK
open Go.RowKit Go.PK
open Go.RowKit Go.PK
end Go.Proofs.YtnflcekodobdlaaGreatDoor
