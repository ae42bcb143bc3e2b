/- Of the proofs of YtifekogdhjabaaaGreatDoor: PkTree3 PkEdi4 PkStr PkEdi5 PkOrd PkEdi7 PkOps7 PkEdi8 PkNum PkInv PkOps8 PkText PkInv2 PkEq PkPay PkPayT PkPayR PkPayS PkPayL PkEdi6 PkWr PkFund PkOrdS PkFull PkFull2 PkBent2 PkFund2 PkTurnG PkRound PkIter PkSer PkSer2 PkSer3 PkTop PkSer4 PkSer5 PkRef4 PkSer6 PkSer7 PkSer8 PkSer9 PkCal4 PkSerW PkSan PkIss PkLaw25 PkSerR PkSerT PkSerU PkCod PkClm PkTake PkUnc PkUnc2 PkUnc3 PkUnc4 PkG24 PkMapC PkG25 PkG26, put together. -/
import Derived.Test.YtifekogdhjabaaaGreatDoorB1
import Derived.Lib.AppendStr
import Derived.Laws.BytesArg
import Derived.Lib.ItoaLen
import Derived.Lib.SplitLaws
import Derived.Sort.Grow
import Derived.Laws.Runes
import Derived.Lib.AtoiAll
import Derived.Lib.ItoaNum
import Derived.Lib.IndexBytes
import Derived.Lib.IndexMore
import Derived.Laws.ResultCell
import Derived.Laws.StructEq
import Derived.ChangeKeysEq
import Derived.ArgAppend
import Derived.OrdersIn
import Derived.RangeFuncCalls
import Derived.RangeFuncLeaves
import Derived.RangeFuncRecord
import Derived.RangeFuncSeq
import Derived.Laws.MakeOwn
import Derived.Lib.AtoiAllCases
import Derived.Lib.CountLaws
import Derived.Shelf.SlIterI.Nil
import Derived.Lib.SlKeysI
set_option linter.unusedVariables false
set_option linter.unusedSimpArgs false
set_option maxRecDepth 100000

namespace Go.PK
open Go Go.RowKit
section
variable {P : Program} {ops : Array Oper} {md : Region.Mode} {oF : List (Nat × Obj)} {rF : List Snap}
def canOpJ (P : Program) (ops : Array Oper) (oF : List (Nat × Obj)) (rF : List Snap) (i : Nat) (K : Act → World → Prop) (a : Act) (w : World) : Prop :=
  ∀ w', Later w w' → Mem w' oF rF → wpOp P ops (fun _ _ _ => False) i (fun a'' w'' => Mem w'' oF rF ∧ K a'' w'') a w'
theorem canOpJ_mono {i : Nat} {a : Act} {w : World} {K K' : Act → World → Prop} (h : ∀ a w, K a w → K' a w) (hh : canOpJ P ops oF rF i K a w) : canOpJ P ops oF rF i K' a w :=
  fun w' hw h0 => wpOp_mono (fun _ _ hk => ⟨hk.1, h _ _ hk.2⟩) (hh w' hw h0)
theorem canOpJ_later {i : Nat} {a : Act} {w w1 : World} {K : Act → World → Prop} (hw : Later w w1) (hh : canOpJ P ops oF rF i K a w) : canOpJ P ops oF rF i K a w1 :=
  fun w' hw' h0 => hh w' (hw.trans hw') h0
def wpAnyJ (P : Program) (md : Region.Mode) (ops : Array Oper) (oF : List (Nat × Obj)) (rF : List Snap) (n : Nat) (L : Array Bool → Act → World → Prop) : Nat → Array Bool → Act → World → Prop
  | 0, listed, a, w => L listed a w
  | f + 1, listed, a, w => Region.ready md ops listed ≠ [] ∧ ∀ i ∈ Region.ready md ops listed, i < n ∧ canOpJ P ops oF rF i (wpAnyJ P md ops oF rF n L f (listed.setIfInBounds i true)) a w
theorem wpAnyJ_later {n : Nat} {L : Array Bool → Act → World → Prop} (hL : LaterClosed L) : ∀ (f : Nat) (listed : Array Bool) (a : Act) (w w' : World), Later w w' →
    wpAnyJ P md ops oF rF n L f listed a w → wpAnyJ P md ops oF rF n L f listed a w'
  | 0, _, _, _, _, h, hh => hL _ _ _ _ h hh
  | _ + 1, _, _, _, _, h, hh => ⟨hh.1, fun i hi => ⟨(hh.2 i hi).1, canOpJ_later h (hh.2 i hi).2⟩⟩
theorem wpAny_of_canJ {n g : Nat} {L : Array Bool → Act → World → Prop} {Q' : Exit → Act → World → Prop} (hL : ∀ listed a w, Mem w oF rF → L listed a w → wpAny P md ops Q' g listed a w) :
    ∀ (f : Nat) (listed : Array Bool) (a : Act) (w : World), Mem w oF rF → wpAnyJ P md ops oF rF n L f listed a w → wpAny P md ops Q' (f + g) listed a w
  | 0, listed, a, w, h0, h => by rw [Nat.zero_add]; exact hL _ _ _ h0 h
  | f + 1, listed, a, w, h0, h => by
    rw [show f + 1 + g = (f + g) + 1 by omega]
    refine ⟨fun he => absurd he h.1, fun i hi => ?_⟩
    have h1 := (h.2 i hi).2 w (Later.refl w) h0
    have h2 : wpOp P ops (fun _ _ _ => False) i (wpAny P md ops Q' (f + g) (listed.setIfInBounds i true)) a w :=
      wpOp_mono (fun a' w' h' => wpAny_of_canJ hL f _ a' w' h'.1 h'.2) h1
    unfold wpOp at h2 ⊢
    split
    · rename_i ho; simp only [ho] at h2; exact h2
    · rename_i o ho
      simp only [ho] at h2
      split
      · rename_i hw
        simp only [hw, if_true] at h2
        rcases h2 with h2 | ⟨_, _, _, h2⟩
        · refine .inl ?_
          unfold Oper.wp at h2 ⊢
          generalize (execOp a.eval o).run P w = r at *
          cases r with
          | ok x w' =>
            cases x <;> simp only [Oper.upon] at h2 ⊢ <;> first
              | exact h2
              | (refine Calls.mono h2 fun e w'' he => ?_
                 cases e with
                 | returned u => exact he
                 | panicked c => exact he.elim
                 | outgrown => obtain ⟨_, _, hf⟩ := he; exact hf.elim)
          | halt x w' => cases x <;> simp only [Oper.upon] at h2 ⊢
        · exact h2.elim
      · rename_i hw
        simp only [hw] at h2
        exact h2
def YieldsJ (P : Program) (ops : Array Oper) (oF : List (Nat × Obj)) (rF : List Snap) (o : Oper) (v : Value) (a : Act) : Prop :=
  (Region.wanted o (yielded ops a.tmps) = true ∧ ∀ w', Mem w' oF rF → fltAt P o a w' v) ∨ (Region.wanted o (yielded ops a.tmps) = false ∧ v = undef)
theorem YieldsJ.of_same {o : Oper} {v : Value} {a a' : Act} (hy : YieldsJ P ops oF rF o v a) (he : execOp a'.eval o = execOp a.eval o)
    (hw : Region.wanted o (yielded ops a'.tmps) = Region.wanted o (yielded ops a.tmps)) : YieldsJ P ops oF rF o v a' := by
  unfold YieldsJ fltAt at *
  rw [he, hw]
  exact hy
theorem YieldsJ.canOp {i : Nat} {o : Oper} {v : Value} {a : Act} {w : World} (hi : ops[i]? = some o) (hy : YieldsJ P ops oF rF o v a) {K : Act → World → Prop}
    (h : ∀ w', Later w w' → K (a.put o.dst v) w') : canOpJ P ops oF rF i K a w := by
  intro w' hw' h0
  unfold Go.wpOp
  simp only [hi]
  rcases hy with ⟨hw, hv⟩ | ⟨hw, rfl⟩
  · rw [if_pos hw]
    refine .inl ?_
    have h3 := hv w' h0
    unfold fltAt at h3
    unfold Oper.wp
    generalize (execOp a.eval o).run P w' = r at *
    cases r with
    | ok n w1 =>
      cases n <;> simp only [fltUpon] at h3 <;> simp only [Oper.upon]
      case value u => obtain ⟨rfl, rfl⟩ := h3; exact ⟨h0, h _ hw'⟩
      case skip => obtain ⟨rfl, rfl⟩ := h3; exact ⟨h0, h _ hw'⟩
      case enter f args =>
        obtain ⟨rfl, hc⟩ := h3
        exact hc.mono fun e w2 ⟨he, hl⟩ => by subst he; exact ⟨Mem.later h0 hl, h _ (hw'.trans hl)⟩
    | halt x w1 => simp only [fltUpon] at h3
  · rw [if_neg (by rw [hw]; exact Bool.false_ne_true)]
    exact ⟨h0, h _ hw'⟩
theorem canOp_putJ {j : Nat} {oi oj : Oper} {v : Value} (hj : ops[j]? = some oj) (hap : oi.apart ops oj = true)
    (hsi : ∀ cs b, oi.op ≠ .select cs b) (hsj : ∀ cs b, oj.op ≠ .select cs b) {K : Act → World → Prop} {a : Act} {w : World}
    (hy : YieldsJ P ops oF rF oi v a) (h : canOpJ P ops oF rF j K (a.put oi.dst v) w) :
    canOpJ P ops oF rF j (fun a' w' => YieldsJ P ops oF rF oi v a' ∧ K (a'.put oi.dst v) w') a w := by
  obtain ⟨h1, h2, h3⟩ := Oper.apart_spec hap
  intro w' hw' h0
  have keep : ∀ (a : Act), YieldsJ P ops oF rF oi v a → ∀ u, YieldsJ P ops oF rF oi v (a.put oj.dst u) := fun a hy u =>
    hy.of_same (execOp_put oi hsi a oj.dst u h3) (wanted_put oi a oj.dst u h3)
  have keepD : ∀ d, YieldsJ P ops oF rF oi v { a with defers := d :: a.defers } := fun d => hy.of_same rfl rfl
  have h := h w' hw' h0
  unfold Go.wpOp at *
  simp only [hj] at *
  rw [wanted_put oj a oi.dst v h1] at h
  split
  · rename_i hw
    simp only [hw, if_true] at h
    rcases h with h | ⟨hasks, _, _, hlets⟩
    case inr => exact hlets.elim
    refine .inl ?_
    unfold Oper.wp at *
    rw [execOp_put oj hsj a oi.dst v h1] at h
    generalize (execOp a.eval oj).run P w' = r at *
    cases r with
    | ok n w1 =>
      cases n <;> simp only [Oper.upon] at h ⊢
      case value u => exact ⟨h.1, keep a hy u, by rw [← Act.put_comm a v u h2]; exact h.2⟩
      case skip => exact ⟨h.1, keep a hy _, by rw [← Act.put_comm a v undef h2]; exact h.2⟩
      case defer d =>
        refine ⟨h.1, keep _ (keepD d) _, ?_⟩
        rw [← Act.put_comm _ v undef h2, ← Act.put_defers]
        exact h.2
      case enter f args =>
        refine Calls.mono h fun e w2 he => ?_
        cases e with
        | returned u => exact ⟨he.1, keep a hy u, by rw [← Act.put_comm a v u h2]; exact he.2⟩
        | panicked c => exact he
        | outgrown => exact he
      case row row args => exact Rows.mono h fun u w2 he => ⟨he.1, keep a hy u, by rw [← Act.put_comm a v u h2]; exact he.2⟩
    | halt x w1 =>
      cases x <;> simp only [Oper.upon] at h ⊢
  · rename_i hw
    simp only [hw] at h
    exact ⟨h.1, keep a hy _, by rw [← Act.put_comm a v undef h2]; exact h.2⟩
theorem wpAnyJ_first {n i : Nat} {oi : Oper} {v : Value} {L : Array Bool → Act → World → Prop} (hL : LaterClosed L) (hi : ops[i]? = some oi) (hsel : ∀ (j : Nat) (o : Oper) cs b, ops[j]? = some o → o.op ≠ .select cs b)
    (hnt : ∀ listed, HeadInv md ops n listed → listed.getD i true = false → ∀ j ∈ Region.ready md ops listed, j < n)
    (hdone : ∀ listed a w, L listed a w → ∀ j ∈ Region.ready md ops listed, n ≤ j) (hin : i < n) :
    ∀ (f : Nat) (listed : Array Bool) (a : Act) (w : World), HeadInv md ops n listed →
      (∀ j oj, ops[j]? = some oj → j ≠ i → listed.getD j true = false → (∀ e ∈ oj.after, Region.binds md e = true → e.on ≠ i) → oi.apart ops oj = true) →
      i ∈ Region.ready md ops listed → YieldsJ P ops oF rF oi v a →
      wpAnyJ P md ops oF rF n L f (listed.setIfInBounds i true) (a.put oi.dst v) w → wpAnyJ P md ops oF rF n L (f + 1) listed a w := by
  intro f
  induction f with
  | zero =>
    intro listed a w inv _ hr hy H
    have hun := (mem_ready.1 hr).1
    refine ⟨fun h => (by rw [h] at hr; cases hr), fun j hj => ?_⟩
    have hjn := hnt listed inv hun j hj
    refine ⟨hjn, ?_⟩
    by_cases hji : j = i
    · subst hji; exact hy.canOp hi fun w' hw' => hL _ _ _ _ hw' H
    · have := hdone _ _ _ H j (ready_mono hj hji)
      omega
  | succ f ih =>
    intro listed a w inv hfree hr hy H
    have hun := (mem_ready.1 hr).1
    refine ⟨fun h => (by rw [h] at hr; cases hr), fun j hj => ?_⟩
    have hjn := hnt listed inv hun j hj
    refine ⟨hjn, ?_⟩
    by_cases hji : j = i
    · subst hji; exact hy.canOp hi fun w' hw' => wpAnyJ_later hL _ _ _ _ _ hw' H
    · have h1 := (H.2 j (ready_mono hj hji)).2
      obtain ⟨hjun, oj, hoj, hall⟩ := mem_ready.1 hj
      have hnot : ∀ e ∈ oj.after, Region.binds md e = true → e.on ≠ i := fun e he hb heq => by
        have h1 := hall e he hb
        rw [heq, getD_both hun] at h1
        cases h1
      have h2 := canOp_putJ hoj (hfree j oj hoj hji hjun hnot) (fun cs b => hsel i oi cs b hi) (fun cs b => hsel j oj cs b hoj) hy h1
      have hfree' : ∀ k ok, ops[k]? = some ok → k ≠ i → (listed.setIfInBounds j true).getD k true = false →
          (∀ e ∈ ok.after, Region.binds md e = true → e.on ≠ i) → oi.apart ops ok = true := fun k ok hk hki hun hno => by
        refine hfree k ok hk hki ?_ hno
        by_cases hjk : j = k
        · subst hjk; exact hjun
        · rw [getD_set_ne true hjk] at hun; exact hun
      refine canOpJ_mono (fun a' w' h3 => ih (listed.setIfInBounds j true) a' w' (inv.set hj hjn) hfree' (ready_mono hr (Ne.symm hji)) h3.1 ?_) h2
      rw [Array.setIfInBounds_comm _ _ hji]
      exact h3.2
def wpJ (P : Program) (ops : Array Oper) (oF : List (Nat × Obj)) (rF : List Snap) (K : Act → World → Prop) : Pl → Act → World → Prop
  | .done, a, w => K a w
  | .flt i t, a, w => match ops[i]? with
    | none => False
    | some o => if Region.wanted o (yielded ops a.tmps) then ∃ v, (∀ w', Mem w' oF rF → fltAt P o a w' v) ∧ wpJ P ops oF rF K t (a.put o.dst v) w else wpJ P ops oF rF K t (a.put o.dst undef) w
  | .gr i t e, a, w => (match ops[i]? with
    | none => False
    | some o => if Region.wanted o (yielded ops a.tmps) then ∀ w', Later w w' → o.wp P a w' (fun a'' w'' => Mem w'' oF rF ∧ wpJ P ops oF rF K t a'' w'') (fun _ _ _ => False) else wpJ P ops oF rF K t (a.put o.dst undef) w) ∧ wpJ P ops oF rF K e a w
  | .nil, _, _ => True
theorem wpAnyJ_tree {n : Nat} {Q : Act → World → Prop} (hQ : ∀ a w w', Later w w' → Q a w → Q a w') (hsel : Region.noSelect ops = true)
    (hnt : ∀ i, i < n → ∀ listed, HeadInv md ops n listed → listed.getD i true = false → ∀ j ∈ Region.ready md ops listed, j < n) :
    ∀ (t : Pl) (f : Nat) (listed : Array Bool) (a : Act) (w : World), HeadInv md ops n listed →
      (treeB md ops n false f t listed = true → wpJ P ops oF rF Q t a w → wpAnyJ P md ops oF rF n (fun listed' a' w' => Region.seqB md ops (ops.size - n) n listed' = true ∧ Q a' w') f listed a w) ∧
      (treeB md ops n true f t listed = true → wpJ P ops oF rF Q t a w → ∀ j ∈ t.heads, j ∈ Region.ready md ops listed → 0 < f ∧ j < n ∧ canOpJ P ops oF rF j (wpAnyJ P md ops oF rF n (fun listed' a' w' => Region.seqB md ops (ops.size - n) n listed' = true ∧ Q a' w') (f - 1) (listed.setIfInBounds j true)) a w)
  | .done, f, listed, a, w, _ => ⟨fun hB h => by
      simp only [treeB, Bool.and_eq_true, decide_eq_true_eq] at hB
      obtain ⟨⟨_, rfl⟩, hB⟩ := hB
      exact ⟨hB, h⟩, fun hB => by simp [treeB] at hB⟩
  | .flt i t, f, listed, a, w, inv => ⟨fun hB h => by
      simp only [treeB, Bool.and_eq_true, decide_eq_true_eq] at hB
      obtain ⟨⟨⟨⟨⟨_, hf⟩, hin⟩, hr⟩, hfr⟩, hB'⟩ := hB
      obtain ⟨g, rfl⟩ : ∃ g, f = g + 1 := ⟨f - 1, by omega⟩
      have hr' : i ∈ Region.ready md ops listed := by simpa using hr
      unfold wpJ at h
      cases ho : ops[i]? with
      | none => simp only [ho] at h
      | some o =>
        simp only [ho] at h
        obtain ⟨v, hy, hK⟩ : ∃ v, YieldsJ P ops oF rF o v a ∧ wpJ P ops oF rF Q t (a.put o.dst v) w := by
          by_cases hw : Region.wanted o (yielded ops a.tmps) = true
          · rw [if_pos hw] at h
            obtain ⟨v, h1, h2⟩ := h
            exact ⟨v, .inl ⟨hw, h1⟩, h2⟩
          · rw [if_neg hw] at h
            exact ⟨undef, .inr ⟨by simpa using hw, rfl⟩, h⟩
        exact wpAnyJ_first (fun _ _ _ _ hw hq => ⟨hq.1, hQ _ _ _ hw hq.2⟩) ho (Region.noSelect_spec hsel) (hnt i hin) (fun _ _ _ hL => seqB_ready hL.1) hin g listed a w inv (Region.free_spec ho hfr) hr' hy
          ((wpAnyJ_tree hQ hsel hnt t g _ _ _ (inv.set hr' hin)).1 (by simpa using hB') hK), fun hB => by simp [treeB] at hB⟩
  | .gr i t e, f, listed, a, w, inv => by
      have alt : ∀ alt, treeB md ops n alt f (.gr i t e) listed = true → wpJ P ops oF rF Q (.gr i t e) a w → ∀ j ∈ (Pl.gr i t e).heads, j ∈ Region.ready md ops listed → 0 < f ∧ j < n ∧ canOpJ P ops oF rF j (wpAnyJ P md ops oF rF n (fun listed' a' w' => Region.seqB md ops (ops.size - n) n listed' = true ∧ Q a' w') (f - 1) (listed.setIfInBounds j true)) a w := by
        intro alt hB h j hj hjr
        simp only [treeB, Bool.and_eq_true, decide_eq_true_eq] at hB
        obtain ⟨⟨⟨⟨_, hf⟩, hin⟩, hB1⟩, hB2⟩ := hB
        unfold wpJ at h
        obtain ⟨h1, h2⟩ := h
        simp only [Pl.heads, List.mem_cons] at hj
        by_cases hji : j = i
        · subst hji
          refine ⟨hf, hin, fun w' hw' h0 => ?_⟩
          cases ho : ops[j]? with
          | none => simp only [ho] at h1
          | some o =>
            simp only [ho] at h1
            unfold wpOp
            simp only [ho]
            by_cases hw : Region.wanted o (yielded ops a.tmps) = true
            · rw [if_pos hw] at h1 ⊢
              exact .inl (Oper.wp_mono (fun a' w2 hk => ⟨hk.1, (wpAnyJ_tree hQ hsel hnt t _ _ _ _ (inv.set hjr hin)).1 hB1 hk.2⟩) (h1 w' hw'))
            · rw [if_neg hw] at h1 ⊢
              exact ⟨h0, wpAnyJ_later (fun _ _ _ _ hw hq => ⟨hq.1, hQ _ _ _ hw hq.2⟩) _ _ _ _ _ hw' ((wpAnyJ_tree hQ hsel hnt t _ _ _ _ (inv.set hjr hin)).1 hB1 h1)⟩
        · have hj' : j ∈ e.heads := by rcases hj with h | h; exact absurd h hji; exact h
          exact (wpAnyJ_tree hQ hsel hnt e f listed a w inv).2 hB2 h2 j hj' hjr
      refine ⟨fun hB h => ?_, alt true⟩
      have hB0 := hB
      simp only [treeB, Bool.and_eq_true, decide_eq_true_eq, Bool.false_or] at hB
      obtain ⟨⟨⟨⟨⟨hall, hne⟩, hf⟩, _⟩, _⟩, _⟩ := hB
      obtain ⟨g, rfl⟩ : ∃ g, f = g + 1 := ⟨f - 1, by omega⟩
      refine ⟨fun h0 => by rw [h0] at hne; simp at hne, fun j hj => ?_⟩
      have hjh : j ∈ (Pl.gr i t e).heads := by simpa using List.all_eq_true.1 hall j hj
      exact (alt false hB0 h j hjh hj).2
  | .nil, f, listed, a, w, _ => ⟨fun hB => by simp [treeB] at hB, fun _ _ j hj => by simp [Pl.heads] at hj⟩
theorem wp_region_inv {id : Nat} {Q : Exit → Act → World → Prop} {a : Act} {w : World} {l : List Oper} (n : Nat) (t : Pl) (hm : P.follows .mixedOrders = true)
    (hB : (Region.noSelect l.toArray && (decide (n = l.toArray.size) || (decide (n < l.toArray.size) && Region.sinkB .any l.toArray n && Region.chainB .any l.toArray n)) && treeB .any l.toArray n false n t (Array.replicate l.toArray.size false)) = true)
    (hw : Mem w oF rF) (h : wpJ P l.toArray oF rF (fun a' w' => ∀ w'', Later w' w'' → wpList P l.toArray Q (l.drop n) a' w'') t a w) : (Code.region id l.toArray true).wp P Q a w := by
  simp only [Bool.and_eq_true] at hB
  obtain ⟨⟨hsel, hn⟩, hpl⟩ := hB
  have hnle : n ≤ l.toArray.size := by
    rcases Bool.or_eq_true _ _ ▸ hn with hn | hn
    · simp only [decide_eq_true_eq] at hn; omega
    · simp only [Bool.and_eq_true, decide_eq_true_eq] at hn; omega
  have hnt : ∀ i, i < n → ∀ listed, HeadInv .any l.toArray n listed → listed.getD i true = false → ∀ j ∈ Region.ready .any l.toArray listed, j < n := by
    intro i hin listed inv hun j hj
    rcases Bool.or_eq_true _ _ ▸ hn with hn | hn
    · simp only [decide_eq_true_eq] at hn
      have := ready_lt j hj
      omega
    · simp only [Bool.and_eq_true, decide_eq_true_eq] at hn
      obtain ⟨⟨hn, hs⟩, hc⟩ := hn
      rcases Nat.lt_or_ge j n with h | h
      · exact h
      · exact absurd hj (tail_waits hs hc hn inv _ i rfl hin hun j h)
  have inv0 : HeadInv .any l.toArray n (Array.replicate l.toArray.size false) :=
    ⟨by simp, fun j oj _ hl => (by rw [getD_replicate_false] at hl; cases hl), fun t _ ht => getD_in (by simpa using ht) (getD_replicate_false _ _)⟩
  have H := (wpAnyJ_tree (P := P) (md := .any) (oF := oF) (rF := rF) (Q := fun a' w' => ∀ w'', Later w' w'' → wpList P l.toArray Q (l.drop n) a' w'') (fun a w w' hw hq w'' hw'' => hq w'' (hw.trans hw'')) hsel hnt t n _ a w inv0).1 hpl h
  refine wp_region_any hm ?_
  have hdl : (l.drop n).length = l.toArray.size - n := by simp
  have := wpAny_of_canJ (Q' := Q) (g := l.toArray.size - n) (oF := oF) (rF := rF) (fun listed a' w' _ hL => by
    have := wpAny_of_seq (md := .any) (Q' := Q) (l.drop n) n listed a' w' (fun j => by simp [List.getElem?_drop]) (by rw [hdl]; exact hL.1) (hL.2 w' (Later.refl _))
    rwa [hdl] at this) _ _ _ _ (hw.later (Later.drew w)) (wpAnyJ_later (fun _ _ _ _ hw hq => ⟨hq.1, fun w2 h2 => hq.2 w2 (hw.trans h2)⟩) _ _ _ _ _ (Later.drew w) H)
  rw [show n + (l.toArray.size - n) = l.toArray.size by omega] at this
  exact this
end
section
variable {P : Program} {n : Nat} {l : List (Nat × Value)} {own oF : List (Nat × Obj)} {ro : List Snap} {lops : List Oper} {Q : Exit → Act → World → Prop} {K : Act → World → Prop} {i d : Nat} {t e : Pl} {op : Op} {ty : TypeId} {pos : String} {af : Array Edge}
theorem rg_inv {id : Nat} {Q : Exit → Act → World → Prop} (oF : List (Nat × Obj)) (m : Nat) (t : Pl) (hsub : oF.Sublist own) (hm : P.follows .mixedOrders = true)
    (hB : (Region.noSelect lops.toArray && (decide (m = lops.toArray.size) || (decide (m < lops.toArray.size) && Region.sinkB .any lops.toArray m && Region.chainB .any lops.toArray m)) && treeB .any lops.toArray m false m t (Array.replicate lops.toArray.size false)) = true)
    (h : S (wpJ P lops.toArray oF ro (fun a' w' => ∀ w'', Later w' w'' → wpList P lops.toArray Q (lops.drop m) a' w'') t) n l own ro) : W P (.region id lops.toArray true) Q n l own ro :=
  fun a w ha hw => wp_region_inv m t hm hB (hw.less hsub (fun _ h => h)) (h a w ha hw)
theorem j_run {o : Oper} (ho : lops[i]? = some o) (hgo : Go_ lops n l o) (hd0 : o.dst = some d) (hd : decide (d < n) = true) {v : Value} (hv : OpV P n l oF ro o.op o.type v)
    (h : S (wpJ P lops.toArray oF ro K t) n ((d, v) :: l) own ro) : S (wpJ P lops.toArray oF ro K (.flt i t)) n l own ro := fun a w ha hw => by
  have hd' : d < n := of_decide_eq_true hd
  unfold wpJ
  simp only [List.getElem?_toArray, ho]
  rw [if_pos (hgo a ha)]
  refine ⟨v, fun w' hw' => ?_, by rw [hd0]; exact h _ w (ha.put v hd') hw⟩
  unfold fltAt
  rw [hv a w' _ ha hw' rfl rfl]
  exact ⟨rfl, rfl⟩
theorem j_val (ho : lops[i]? = some ⟨some d, op, ty, pos, af, none⟩) (hd : decide (d < n) = true) {v : Value} (hv : OpV P n l oF ro op ty v)
    (h : S (wpJ P lops.toArray oF ro K t) n ((d, v) :: l) own ro) : S (wpJ P lops.toArray oF ro K (.flt i t)) n l own ro := j_run ho (go_none rfl) rfl hd hv h
theorem j_bool (ho : lops[i]? = some ⟨some d, op, ty, pos, af, none⟩) (hd : decide (d < n) = true) {b : Bool} (hv : OpV P n l oF ro op ty (.bool b))
    (h : ∀ c, c = b → S (wpJ P lops.toArray oF ro K t) n ((d, .bool c) :: l) own ro) : S (wpJ P lops.toArray oF ro K (.flt i t)) n l own ro := j_val ho hd hv (h b rfl)
theorem j_gr (h : WX P lops.toArray (fun _ _ _ => False) (fun a w => Mem w oF ro ∧ wpJ P lops.toArray oF ro K t a w) [(none, i)] n l own ro) (he : S (wpJ P lops.toArray oF ro K e) n l own ro) : S (wpJ P lops.toArray oF ro K (.gr i t e)) n l own ro := fun a w ha hw => by
  have h := h a w ha hw
  unfold wpJ
  refine ⟨?_, he a w ha hw⟩
  simp only [wpX] at h
  split <;> rename_i ho <;> simp only [ho] at h
  split <;> rename_i hw'
  · intro w2 h2
    have h := h w2 h2
    rw [if_pos hw'] at h
    exact Oper.wp_mono (fun a' w' hk => hk w' (Later.refl _)) h
  · have h := h w (Later.refl _)
    rw [if_neg hw'] at h
    exact (h w (Later.refl _)).2
theorem j_end (hsub : oF.Sublist own) (h : S (wpJ P lops.toArray oF ro K t) n l own ro) : S (fun a w => Mem w oF ro ∧ wpJ P lops.toArray oF ro K t a w) n l own ro := fun a w ha hw => ⟨hw.less hsub (fun _ h => h), h a w ha hw⟩
theorem j_nil : S (wpJ P lops.toArray oF ro K .nil) n l own ro := fun _ _ _ _ => trivial
theorem j_done {m : Nat} (h : WX P lops.toArray Q (fun a w => Q .normal a w) (tailFrom m lops.length) n l own ro) :
    S (wpJ P lops.toArray oF ro (fun a' w' => ∀ w'', Later w' w'' → wpList P lops.toArray Q (lops.drop m) a' w'') .done) n l own ro :=
  fun a w ha hw w2 h2 => wpList_of_X _ m a w2 rfl (wpX_later h2 (h a w ha hw))
end
end Go.PK

namespace Go.PK
open Go Go.RowKit
end Go.PK

namespace Go.PK
open Go Go.RowKit
theorem append_str_block {P : Program} {w w' : World} (t u ty e : TypeId) (i : TypeInfo) (ht : P.underlying t = some (.slice e)) (hu : P.underlying u = some .string) (hi : P.info? e = some i) (hz : i.zero = some (.int .u8 0)) (hsize : i.size = 1) (hby : i.bytes = 1)
    (v v' : Value) (n : Nat) (xs : List Value) (hown : w.ownsRow 0 e 1 v n xs) (s : ByteArray) (h63 : n + s.size ≤ maxLen) (hbytes : n + s.size ≤ 140737488355328)
    (hr : (Builtin.append_ #[t, u] ty #[v, .string s]).run P w = .ok v' w') (h4 : v' = .slice none 0 0 ↔ v = .slice none 0 0 ∧ s.size = 0) : v'.ownBlock = v.ownBlock ∨ v'.ownBlock = some w.heap.size := by
  have hxl : xs.length = n := by simpa using hown.1
  simp only [maxLen] at h63
  rcases hown.2 with ⟨rfl, rfl⟩ | ⟨g, cap, cur, rfl, _, hg, hnc, hcm, hcs, htake⟩
  · by_cases hm : s.size = 0
    · exact .inl (by rw [h4.2 ⟨rfl, hm⟩])
    · have h2 := run_append_nil_string (P := P) w t u ty e i (.int .u8 0) ht hu hi hz s (by omega) (by omega) (by rw [hby]; omega)
      rw [h2] at hr
      injection hr with h5 h6
      exact .inr (by rw [← h5]; rfl)
  · by_cases hroom : n + s.size ≤ cap
    · have h2 := Lib.run_append_room_string (P := P) w t u ty e i ht hu hi hsize g n cap cur hg s hroom (by omega)
      rw [h2] at hr
      injection hr with h5 h6
      exact .inl (by rw [← h5]; rfl)
    · have holds : ∀ j u, xs[j]? = some u → w.cell? ((⟨g, 0, none⟩ : Addr).add j) = some u := World.ownsRow.cells hown (g := g) rfl
      have h2 := Lib.run_append_grow_string (P := P) w t u ty e i (.int .u8 0) ht hu hi hz ⟨g, 0, none⟩ n cap xs (by rw [hsize]; simpa using hxl) holds s (by omega) (by omega) (by rw [hby]; exact growslice_fits (by omega) (by omega))
      rw [h2] at hr
      injection hr with h5 h6
      exact .inr (by rw [← h5]; rfl)
section
variable {P : Program} {b off : Nat} {t' : TypeId} {n : Nat} {l : List (Nat × Value)} {own : List (Nat × Obj)} {ro : List Snap} {lops : List Oper} {Q : Exit → Act → World → Prop} {K : Act → World → Prop}
  {rest : List (Option Bool × Nat)} {k : Option Bool} {i d : Nat} {ty t u : TypeId} {pos : String} {af : Array Edge} {x y : Operand}
theorem x_append_str {e : TypeId} {len : Nat} {xs : List Value} {s : ByteArray} (l1 : List (Nat × Obj)) {l2 : List (Nat × Obj)} (r : RowS) (ho : lops[i]? = some ⟨some d, .call ⟨.builtin .append, #[x, y], #[t, u]⟩, ty, pos, af, none⟩) (hd : decide (d < n) = true)
    (hx : ev l x = some (rowV r len)) (hy : ev l y = some (.string s)) (hown : own = l1 ++ rowO e r ++ l2) (hr : rowOK 1 r len xs)
    (ht : P.underlying t = some (.slice e)) (hu : P.underlying u = some .string) (hi : (P.info? e).map (fun j => (j.zero, j.size, j.bytes)) = some (some (.int .u8 0), 1, 1))
    (hb1 : len + s.size ≤ maxLen) (hb2 : len + s.size ≤ 140737488355328)
    (h : ∀ r', rowOK 1 r' (len + s.size) (xs ++ byC s.data.toList) → WX P lops.toArray Q K rest n ((d, rowV r' (len + s.size)) :: l) (l1 ++ rowO e r' ++ l2) ro) : WX P lops.toArray Q K ((none, i) :: rest) n l own ro := by
  subst hown
  intro a w ha hw
  have hd' : d < n := of_decide_eq_true hd
  have hw1 := go_none (lops := lops) (n := n) (l := l) (o := ⟨some d, .call ⟨.builtin .append, #[x, y], #[t, u]⟩, ty, pos, af, none⟩) rfl a ha
  simp only [wpX, List.getElem?_toArray, ho]
  intro w' hl'
  rw [if_pos hw1]
  have hM := hw.later hl'
  obtain ⟨inf, hi1, hi2⟩ := Option.map_eq_some_iff.1 hi
  simp only [Prod.mk.injEq] at hi2
  obtain ⟨hiz, his, hib⟩ := hi2
  have hown := row_owns (own := []) hM hr
  obtain ⟨v', w2, hrun, h2, h3, h4⟩ := Lib.run_append_own_string (P := P) w' 0 t u ty e inf ht hu hi1 hiz his hib (rowV r len) len xs hown s hb1 hb2 (Nat.zero_le _)
  have h5 := append_str_block (P := P) t u ty e inf ht hu hi1 hiz his hib _ v' len xs hown s hb1 hb2 hrun h4
  obtain ⟨r', rfl, hok, hM2⟩ := hM.append h2 h3 h5
  unfold Oper.wp execOp
  simp only [resolve, invoke, builtin, Sem.run_bind, Sem.run_pure, Result.andThen_ok, List.map_toArray, List.map_cons, List.map_nil, ha.eval hx, ha.eval hy, hrun]
  exact h r' hok _ _ (ha.put _ hd') hM2
end
theorem v_toStrR {P : Program} {n : Nat} {l : List (Nat × Value)} {own : List (Nat × Obj)} {ro : List Snap} {ty t t' : TypeId} {x : Operand} {e E : TypeId} {m : Nat} {r : RowS} (bs : List UInt8) (hs : P.underlying t = some (.slice e)) (he : P.underlying e = some (.int .u8)) (hd : P.underlying t' = some .string) (hx : ev l x = some (rowV r m)) (hr : rowOK 1 r m (byC bs)) (hm : m = bs.length)
    (hown : ∀ q ∈ rowO E r, q ∈ own) : OpV P n l own ro (.convert t t' x) ty (.string ⟨bs.toArray⟩) := by
  subst hm
  cases r with
  | none =>
    have h0 : bs = [] := List.eq_nil_of_length_eq_zero hr.2
    subst h0
    intro A w o ha hw ho _
    have h1 := run_convert_bytes_nil (P := P) w t e hs he ([] : List UInt8).length 0 t' hd
    have hx2 : A.eval x = .slice none ([] : List UInt8).length 0 := ha.eval hx
    simp only [execOp, ho, hx2, h1, Sem.run_bind, Result.andThen_ok]
    rfl
  | some z =>
    obtain ⟨b, cs, c⟩ := z
    obtain ⟨h1, h2, h3, h4, h5⟩ := hr
    dsimp only at h2 h3 h4 h5
    refine v_toStr (b := b) (off := 0) bs hs he hd hx rfl fun j hj => at_ownL (vs := cs) (hown (b, Obj.cells cs.toArray E (0, 0)) (by simp [rowO])) ?_
    have h6 := byC_at hj
    rw [← h5, List.getElem?_take, if_pos (by omega)] at h6
    rw [Nat.zero_add]; exact h6
end Go.PK

namespace Go.PK
open Go Go.RowKit
def bl (s : ByteArray) : List UInt8 := s.data.toList
theorem bl_len (s : ByteArray) : (bl s).length = s.size := by unfold bl; simp
theorem bl_str (s : ByteArray) : (⟨(bl s).toArray⟩ : ByteArray) = s := by unfold bl; simp
theorem bl_mk (l : List UInt8) : bl ⟨l.toArray⟩ = l := by unfold bl; simp
theorem bl_get {s : ByteArray} {k : Nat} (h : k < (bl s).length) : (bl s)[k] = byteAt s k := by
  unfold bl byteAt at *; rw [List.getD_eq_getElem?_getD, List.getElem?_eq_getElem h]; rfl
theorem str_app (bs : List UInt8) (s : ByteArray) : (⟨bs.toArray⟩ : ByteArray) ++ s = ⟨(bs ++ bl s).toArray⟩ := by
  rw [ByteArray.ext_iff]; simp [bl]
def escB (c : UInt8) : List UInt8 := if signB c then [63, c] else [c]
def escL (l : List UInt8) : List UInt8 := l.flatMap escB
theorem escL_cons (c : UInt8) (l : List UInt8) : escL (c :: l) = escB c ++ escL l := rfl
def elT (c : UInt8) : List ByteArray → List UInt8
  | [] => []
  | t :: ts => c :: (escL (bl t) ++ elT 58 ts)
def sgT (x : Seg) : List UInt8 := bl x.tag ++ (x.els.flatMap (elT 43) ++ [39])
def rightSg (x : Seg) : Bool := decide (x.tag.size = 3) && !(bl x.tag).any (fun c => !capB c) && !x.els.any List.isEmpty
def unaT : ByteArray := ⟨#[85, 78, 65]⟩
def goodW (k : Nat) (x : Seg) : Prop := rightSg x = true ∧ ¬(k = 0 ∧ x.tag = unaT)
instance (k : Nat) (x : Seg) : Decidable (goodW k x) := by unfold goodW; infer_instance
abbrev WrR := ByteArray × Int
def wrT (l : List Seg) : List UInt8 := l.flatMap sgT
def wrR (l : List Seg) : WrR :=
  if l.length > 10000 then (⟨#[]⟩, 2)
  else if ∀ k (h : k < l.length), goodW k l[k] then (⟨(wrT l).toArray⟩, 0) else (⟨#[]⟩, 1)
theorem wrR_many {l : List Seg} (h : l.length > 10000) : wrR l = (⟨#[]⟩, 2) := by unfold wrR; rw [if_pos h]
theorem wrR_bad {l : List Seg} {k : Nat} (h : ¬l.length > 10000) (hk : k < l.length) (hb : ¬goodW k l[k]) : wrR l = (⟨#[]⟩, 1) := by
  unfold wrR; rw [if_neg h, if_neg (fun h2 => hb (h2 k hk))]
theorem wrR_ok {l : List Seg} (h : ¬l.length > 10000) (hg : ∀ k (h : k < l.length), goodW k l[k]) : wrR l = (⟨(wrT l).toArray⟩, 0) := by
  unfold wrR; rw [if_neg h, if_pos hg]
theorem wrT_drop {l : List Seg} {k : Nat} (h : k < l.length) : wrT (l.drop k) = bl l[k].tag ++ (l[k].els.flatMap (elT 43) ++ ([39] ++ wrT (l.drop (k + 1)))) := by
  unfold wrT; rw [List.drop_eq_getElem_cons h, List.flatMap_cons]; unfold sgT; simp only [List.append_assoc]
theorem els_drop {x : List (List ByteArray)} {j : Nat} (h : j < x.length) : (x.drop j).flatMap (elT 43) = elT 43 x[j] ++ (x.drop (j + 1)).flatMap (elT 43) := by
  rw [List.drop_eq_getElem_cons h, List.flatMap_cons]
theorem elT_drop {e : List ByteArray} {i : Nat} {c : UInt8} (h : i < e.length) : elT c (e.drop i) = c :: (escL (bl e[i]) ++ elT 58 (e.drop (i + 1))) := by
  rw [List.drop_eq_getElem_cons h]; rfl
theorem esc_drop {t : ByteArray} {m : Nat} (h : m < t.size) : escL ((bl t).drop m) = escB (byteAt t m) ++ escL ((bl t).drop (m + 1)) := by
  have h2 : m < (bl t).length := by rw [bl_len]; exact h
  rw [List.drop_eq_getElem_cons h2, escL_cons, bl_get h2]
theorem drop_all {α : Type} {l : List α} {k : Nat} (h : ¬k < l.length) : l.drop k = [] := List.drop_eq_nil_of_le (by omega)
theorem rightSg_tag {x : Seg} (h : rightSg x = true) : x.tag.size = 3 := by
  unfold rightSg at h; simp only [Bool.and_eq_true, decide_eq_true_eq] at h; exact h.1.1
theorem Mem.perm {w : World} {own own' : List (Nat × Obj)} {ro : List Snap} (h : Mem w own ro) (p : own.Perm own') : Mem w own' ro where
  own_at := fun q hq => h.own_at q (p.mem_iff.2 hq)
  own_nd := (p.map (·.1)).nodup_iff.1 h.own_nd
  ro_st := h.ro_st
  ro_at := h.ro_at
  apart := fun q hq => h.apart q (p.mem_iff.2 hq)
theorem len_le {a b c : List UInt8} {N : Nat} (h : a ++ b = c) (hc : c.length ≤ N) : a.length ≤ N := by
  have := congrArg List.length h; rw [List.length_append] at this; omega
theorem mk_size (l : List UInt8) : (⟨l.toArray⟩ : ByteArray).size = l.length := List.size_toArray
theorem str_app2 (a b : List UInt8) : (⟨a.toArray⟩ : ByteArray) ++ ⟨b.toArray⟩ = ⟨(a ++ b).toArray⟩ := by rw [str_app, bl_mk]
theorem any3 : ∀ (l : List UInt8), l.length = 3 → l.any (fun c => !capB c) = !(capB (l.getD 0 0) && capB (l.getD 1 0) && capB (l.getD 2 0))
  | [a, b, c], _ => by simp [Bool.not_and, Bool.or_assoc]
theorem any_cap {t : ByteArray} (h : t.size = 3) : (bl t).any (fun c => !capB c) = !(capB (byteAt t 0) && capB (byteAt t 1) && capB (byteAt t 2)) := any3 (bl t) (by rw [bl_len, h])
theorem esc_len : ∀ (l : List UInt8), l.length ≤ (escL l).length
  | [] => Nat.le_refl _
  | c :: l => by
    have := esc_len l
    have h2 : 1 ≤ (escB c).length := by unfold escB; split <;> simp
    rw [escL_cons, List.length_append, List.length_cons]; omega
def sepB (i : Nat) : UInt8 := if i = 0 then 43 else 58
end Go.PK

namespace Go.PK
open Go Go.RowKit
theorem later_grow (w : World) (n : Nat) (os : Array Obj) : Later w (Sort.grow (w.drewN n) os) where
  os := rfl
  tape := rfl
  output := rfl
  size := by rw [Sort.size_grow]; show w.heap.size ≤ w.heap.size + os.size; omega
  block := fun k hk => by
    show (w.heap ++ os)[k]? = w.heap[k]?
    rw [Array.getElem?_append_left hk]
theorem later_alloc (w : World) (o : Obj) : Later w (w.alloc o) where
  os := rfl
  tape := rfl
  output := rfl
  size := by show w.heap.size ≤ (w.heap.push o).size; rw [Array.size_push]; omega
  block := fun k hk => by
    show (w.heap.push o)[k]? = w.heap[k]?
    rw [Array.getElem?_push, if_neg (by omega)]
theorem alloc_at (w : World) (o : Obj) : (w.alloc o).heap[w.heap.size]? = some o := by
  show (w.heap.push o)[w.heap.size]? = _
  simp
def itoaS (n : Int) : ByteArray := ⟨(Lib.itoa n).toArray⟩
theorem itoaS_size {n : Int} (h : in64 n) : (itoaS n).size ≤ 21 := by
  unfold itoaS; rw [mk_size]; exact Lib.itoa_length_le n h.1 h.2
def colon : ByteArray := ⟨#[58]⟩
def splitC (e : ByteArray) : List ByteArray := Lib.splitB colon 0 (Lib.countB e colon) e
theorem splitC_len (e : ByteArray) : (splitC e).length = Lib.countB e colon + 1 := Lib.splitB_all colon (by decide) 0 _ e rfl
theorem splitB_size (sep : ByteArray) : ∀ (k : Nat) (s : ByteArray), ∀ p ∈ Lib.splitB sep 0 k s, p.size ≤ s.size
  | 0, s, p, h => by rw [Lib.splitB_zero, List.mem_singleton] at h; rw [h]; exact Nat.le_refl _
  | k + 1, s, p, h => by
    unfold Lib.splitB at h
    split at h
    · rw [List.mem_singleton] at h; rw [h]; exact Nat.le_refl _
    · rcases List.mem_cons.1 h with rfl | h
      · rw [ByteArray.size_extract]; omega
      · have := splitB_size sep k _ p h
        rw [ByteArray.size_extract] at this; omega
theorem splitC_ok {e : ByteArray} (h : okS e) : ∀ p ∈ splitC e, okS p := fun p hp => by
  have := splitB_size _ _ _ p hp
  unfold okS at *; omega
structure Ord where
  id : Int
  fund : Int
  src : Int
  num : Int
  copies : Int
  price : Int
  prom : Int
  paid : Int
  st : Int
deriving DecidableEq
def Ord.cells (o : Ord) : List Value := [.int .i64 o.id, .int .i64 o.fund, .int .i64 o.src, .int .i64 o.num, .int .i64 o.copies, .int .i64 o.price, .int .i64 o.prom, .int .i64 o.paid, .int .i64 o.st]
def Ord.ok (o : Ord) : Prop := in64 o.id ∧ in64 o.fund ∧ in64 o.src ∧ in64 o.num ∧ in64 o.copies ∧ in64 o.price
def wi (a b : Int) (l : List Int) : Bool := !l.any (fun n => decide (n < a) || decide (n > b))
def writB (o : Ord) : Bool := wi 1 999999999 [o.id, o.fund] && wi 0 999999999 [o.src, o.num, o.price] && wi 1 9999 [o.copies]
def artS (s n : Int) : ByteArray := ((itoaS s ++ ⟨#[46]⟩) ++ itoaS n) ++ ⟨#[58, 83, 82, 86]⟩
theorem artS_size {s n : Int} (h1 : in64 s) (h2 : in64 n) : (artS s n).size ≤ 60 := by
  have a := itoaS_size h1; have b := itoaS_size h2
  unfold artS
  rw [ByteArray.size_append, ByteArray.size_append, ByteArray.size_append]
  have e1 : (⟨#[46]⟩ : ByteArray).size = 1 := rfl
  have e2 : (⟨#[58, 83, 82, 86]⟩ : ByteArray).size = 4 := rfl
  omega
def orderP (o : Ord) : List Seg :=
  [⟨⟨#[85, 78, 72]⟩, [splitC (⟨#[49]⟩), splitC (⟨#[79, 82, 68, 69, 82, 83, 58, 68, 58, 57, 54, 65, 58, 85, 78]⟩)]⟩,
   ⟨⟨#[66, 71, 77]⟩, [splitC (⟨#[50, 50, 48]⟩), splitC (itoaS o.id)]⟩,
   ⟨⟨#[76, 73, 78]⟩, [splitC (⟨#[49]⟩), splitC (⟨#[]⟩), splitC (artS o.src o.num)]⟩,
   ⟨⟨#[81, 84, 89]⟩, [splitC (⟨#[50, 49, 58]⟩ ++ itoaS o.copies)]⟩,
   ⟨⟨#[80, 82, 73]⟩, [splitC (⟨#[65, 65, 65, 58]⟩ ++ itoaS o.price)]⟩,
   ⟨⟨#[82, 70, 70]⟩, [splitC (⟨#[66, 70, 78, 58]⟩ ++ itoaS o.fund)]⟩,
   ⟨⟨#[85, 78, 84]⟩, [splitC (⟨#[55]⟩), splitC (⟨#[49]⟩)]⟩]
def orderR (o : Ord) : List Seg := if writB o then orderP o else []
inductive RdAll {α : Type} (T : Ty α) (D : Nat → Prop) (w : World) : List (List Value) → List α → Prop where
  | nil : RdAll T D w [] []
  | cons {c : List Value} {x : α} {css : List (List Value)} {xs : List α} (h : T.rd D w c x) (t : RdAll T D w css xs) : RdAll T D w (c :: css) (x :: xs)
theorem RdAll.len {α : Type} {T : Ty α} {D : Nat → Prop} {w : World} : ∀ {css : List (List Value)} {xs : List α}, RdAll T D w css xs → css.length = xs.length ∧ css.flatten.length = xs.length * T.size
  | [], [], .nil => ⟨rfl, by simp⟩
  | _ :: _, _ :: _, .cons h t => by
    have ih := t.len
    have := T.len h
    refine ⟨by simp [ih.1], ?_⟩
    rw [List.flatten_cons, List.length_append, ih.2, this, List.length_cons, Nat.succ_mul, Nat.add_comm]
theorem RdAll.at {α : Type} {T : Ty α} {D : Nat → Prop} {w : World} : ∀ {css : List (List Value)} {xs : List α}, RdAll T D w css xs → ∀ j (h1 : j < css.length) (h2 : j < xs.length), T.rd D w css[j] xs[j]
  | _, _, .nil, _, h, _ => by simp at h
  | _, _, .cons h t, 0, _, _ => h
  | _, _, .cons h t, j + 1, h1, h2 => t.at j (by simpa using h1) (by simpa using h2)
theorem RdAll.rd {α : Type} {T : Ty α} {w : World} {own : List (Nat × Obj)} {ro : List Snap} {e : TypeId} {b n : Nat} {css : List (List Value)} {xs : List α} {w0 : World} (h : RdAll T (newD w0 own) w css xs) (hm : Mem w own ro) (hin : (b, Obj.cells css.flatten.toArray e) ∈ own) (hb : (w0, fun _ => True) ∈ ro) (hn : n = xs.length) (hx : xs.length ≤ maxLen) :
    sliceRd T (fun b => w0.heap.size ≤ b) w (.slice (some ⟨b, 0, none⟩) n n) xs := by
  subst hn
  have hl := h.len
  have hT : RowT T (newD w0 own) w (some (b, css.flatten, xs.length)) xs := ⟨css, hl.1, rowOK_lit hl.2 hx, h.at⟩
  exact hT.rd hm (fun p hp => by rw [List.mem_singleton.1 hp]; exact hin) (fun _ h => h.1) (fun p hp => by rw [List.mem_singleton.1 hp]; exact hm.newer hb hin) rfl
end Go.PK

namespace Go.PK
open Go Go.RowKit
theorem getD_at {α : Type} {l : List α} {k : Nat} {d : α} (h : k < l.length) : l.getD k d = l[k] := by rw [List.getD_eq_getElem?_getD, List.getElem?_eq_getElem h]; rfl
end Go.PK

namespace Go.PK
open Go Go.RowKit
section
variable {P : Program} {n : Nat} {l : List (Nat × Value)} {own : List (Nat × Obj)} {ro : List Snap} {ty t t' : TypeId} {x y : Operand} {k k' : IntKind} {a b : Int}
theorem v_conv64 {td : TypeDesc} (hs : P.underlying t = some td) (hd : P.underlying t' = some (.int .i64)) (hx : ev l x = some (.int k a)) (h : -9223372036854775808 ≤ a ∧ a ≤ 9223372036854775807) : OpV P n l own ro (.convert t t' x) ty (.int .i64 a) := by
  have := v_conv (n := n) (own := own) (ro := ro) (ty := ty) hs hd hx
  rwa [wrap_in h] at this
theorem v_remN {a b : Nat} (hx : ev l x = some (.int k (a : Nat))) (hy : ev l y = some (.int k (b : Nat))) (h0 : b ≠ 0) : OpV P n l own ro (.binOp .rem t x y t') ty (.int k ((a % b : Nat) : Int)) :=
  v_rem hx hy (by omega)
theorem v_quoN {a b : Nat} (hx : ev l x = some (.int .i64 (a : Nat))) (hy : ev l y = some (.int .i64 (b : Nat))) (h0 : b ≠ 0) (h : a ≤ 9223372036854775807) : OpV P n l own ro (.binOp .quo t x y t') ty (.int .i64 ((a / b : Nat) : Int)) :=
  v_quoi (c := ((a / b : Nat) : Int)) hx hy (by omega) rfl (by have h2 := Nat.div_le_self a b; generalize a / b = q at h2 ⊢; constructor <;> omega)
theorem v_saddL {a b : List UInt8} (hx : ev l x = some (.string ⟨a.toArray⟩)) (hy : ev l y = some (.string ⟨b.toArray⟩)) (h : a.length + b.length ≤ 9223372036854775807) : OpV P n l own ro (.binOp .add t x y t') ty (.string ⟨(a ++ b).toArray⟩) := by
  rw [← str_app2]
  exact v_sadd hx hy (by rw [mk_size, mk_size]; exact h)
end
end Go.PK

namespace Go.PK
open Go Go.RowKit
theorem okS_small {s : ByteArray} (h : s.size ≤ 100000) : okS s := by unfold okS; omega
theorem lits_own {α : Type} {T : Ty α} {D : Nat → Prop} {w : World} {own : List (Nat × Obj)} {ro : List Snap} {b n : Nat} {e : TypeId} (css : List (List Value)) {xs : List α} (hm : Mem w own ro) (hb : (b, Obj.cells css.flatten.toArray e) ∈ own)
    (hn : n = xs.length) (hmx : xs.length ≤ 9223372036854775807) (hD : D b) (hrd : Reads T D w css xs) : sliceRd T D w (.slice (some ⟨b, 0, none⟩) n n) xs :=
  lits_rd css (hm.own_at _ hb) rfl hn hmx hD hrd
theorem lits_new {α : Type} {T : Ty α} {w w0 : World} {own : List (Nat × Obj)} {ro : List Snap} {b n : Nat} {e : TypeId} (css : List (List Value)) {xs : List α} (hm : Mem w own ro) (hs : (w0, fun _ => True) ∈ ro) (hb : (b, Obj.cells css.flatten.toArray e) ∈ own)
    (hn : n = xs.length) (hmx : xs.length ≤ 9223372036854775807) (hrd : Reads T (fun b => w0.heap.size ≤ b) w css xs) : sliceRd T (fun b => w0.heap.size ≤ b) w (.slice (some ⟨b, 0, none⟩) n n) xs :=
  lits_own css hm hb hn hmx (hm.newer hs hb) hrd
end Go.PK

namespace Go.PK
open Go Go.RowKit
def digB8 (c : UInt8) : Bool := decide (48 ≤ c.toNat ∧ c.toNat ≤ 57)
def numF (l : List UInt8) (a : Nat) : Nat := l.foldl (fun a c => 10 * a + (c.toNat - 48)) a
theorem numF_snoc (l : List UInt8) (c : UInt8) (a : Nat) : numF (l ++ [c]) a = 10 * numF l a + (c.toNat - 48) := by simp [numF]
def canonL (l : List UInt8) : Prop := l ≠ [] ∧ (∀ c ∈ l, digB8 c = true) ∧ (1 < l.length → l.head? ≠ some 48)
instance (l : List UInt8) : Decidable (canonL l) := by unfold canonL; infer_instance
theorem dig_of {d : Nat} (h : d < 10) : (UInt8.ofNat (48 + d)).toNat = 48 + d := by
  rw [UInt8.toNat_ofNat_of_lt' (by show _ < 256; omega)]
theorem digB8_of {d : Nat} (h : d < 10) : digB8 (UInt8.ofNat (48 + d)) = true := by
  unfold digB8; rw [dig_of h]; exact decide_eq_true (by omega)
theorem dig_back {c : UInt8} (h : digB8 c = true) : UInt8.ofNat (48 + (c.toNat - 48)) = c := by
  have := of_decide_eq_true h
  rw [show 48 + (c.toNat - 48) = c.toNat by omega]
  exact UInt8.ofNat_toNat
theorem dec_small {u : Nat} (h : u < 10) : Lib.decDigits u = [UInt8.ofNat (48 + u)] := by rw [Lib.decDigits, dif_pos h]
theorem dec_big {u : Nat} (h : ¬u < 10) : Lib.decDigits u = Lib.decDigits (u / 10) ++ [UInt8.ofNat (48 + u % 10)] := by rw [Lib.decDigits, dif_neg h]
theorem dec_num : ∀ (n u : Nat), u ≤ n → numF (Lib.decDigits u) 0 = u
  | 0, u, h => by rw [dec_small (by omega)]; show 10 * 0 + ((UInt8.ofNat (48 + u)).toNat - 48) = u; rw [dig_of (by omega)]; omega
  | n + 1, u, h => by
    by_cases hu : u < 10
    · rw [dec_small hu]; show 10 * 0 + ((UInt8.ofNat (48 + u)).toNat - 48) = u; rw [dig_of hu]; omega
    · rw [dec_big hu, numF_snoc, dec_num n (u / 10) (by omega), dig_of (by omega)]; omega
theorem dec_canon : ∀ (n u : Nat), u ≤ n → canonL (Lib.decDigits u) ∧ (0 < u → (Lib.decDigits u).head? ≠ some 48)
  | n, u, h => by
    by_cases hu : u < 10
    · rw [dec_small hu]
      refine ⟨⟨by simp, fun c hc => by rw [List.mem_singleton.1 hc]; exact digB8_of hu, fun h => by simp at h⟩, fun h0 h1 => ?_⟩
      have h1 : UInt8.ofNat (48 + u) = 48 := by simpa using h1
      have := congrArg UInt8.toNat h1
      rw [dig_of hu] at this
      have e : (48 : UInt8).toNat = 48 := rfl
      omega
    · match n with
      | 0 => omega
      | n + 1 =>
        obtain ⟨⟨a1, a2, a3⟩, a4⟩ := dec_canon n (u / 10) (by omega)
        rw [dec_big hu]
        have hh : (Lib.decDigits (u / 10) ++ [UInt8.ofNat (48 + u % 10)]).head? = (Lib.decDigits (u / 10)).head? := by
          cases hd : Lib.decDigits (u / 10) with
          | nil => exact absurd hd a1
          | cons x l => rfl
        refine ⟨⟨by simp, fun c hc => ?_, fun _ => by rw [hh]; exact a4 (by omega)⟩, fun _ => by rw [hh]; exact a4 (by omega)⟩
        rcases List.mem_append.1 hc with hc | hc
        · exact a2 c hc
        · rw [List.mem_singleton.1 hc]; exact digB8_of (by omega)
theorem canon_dec : ∀ (n : Nat) (l : List UInt8), l.length ≤ n → canonL l → Lib.decDigits (numF l 0) = l
  | 0, l, h, hc => absurd (List.eq_nil_of_length_eq_zero (by omega)) hc.1
  | n + 1, l, h, hc => by
    obtain ⟨h1, h2, h3⟩ := hc
    rcases List.eq_nil_or_concat l with rfl | ⟨m, c, rfl⟩
    · exact absurd rfl h1
    · rw [List.concat_eq_append] at h h2 h3 ⊢
      have hcd : digB8 c = true := h2 c (by simp)
      have hcr := of_decide_eq_true hcd
      rw [numF_snoc]
      by_cases hm : m = []
      · subst hm
        show Lib.decDigits (10 * 0 + (c.toNat - 48)) = [c]
        rw [dec_small (by omega), show 10 * 0 + (c.toNat - 48) = c.toNat - 48 by omega, dig_back hcd]
      · have hcm : canonL m := by
          refine ⟨hm, fun x hx => h2 x (List.mem_append_left _ hx), fun hl => ?_⟩
          have h4 := h3 (by rw [List.length_append, List.length_singleton]; omega)
          cases m with
          | nil => exact absurd rfl hm
          | cons x m => exact h4
        have ih := canon_dec n m (by rw [List.length_append, List.length_singleton] at h; omega) hcm
        have hpos : 0 < numF m 0 := by
          rcases Nat.eq_zero_or_pos (numF m 0) with h0 | h0
          · exfalso
            rw [h0, dec_small (by omega)] at ih
            rw [← ih] at h3
            exact h3 (by simp) rfl
          · exact h0
        rw [dec_big (by omega), show (10 * numF m 0 + (c.toNat - 48)) / 10 = numF m 0 by omega, ih, show (10 * numF m 0 + (c.toNat - 48)) % 10 = c.toNat - 48 by omega, dig_back hcd]
theorem dec_len : ∀ (k u : Nat), (Lib.decDigits u).length ≤ k + 1 ↔ u < 10 ^ (k + 1)
  | 0, u => by
    by_cases hu : u < 10
    · rw [dec_small hu]; simp; omega
    · rw [dec_big hu]
      have := (dec_canon _ (u / 10) (Nat.le_refl _)).1.1
      have h2 := List.length_pos_iff.2 this
      rw [List.length_append, List.length_singleton]
      constructor
      · intro h; omega
      · intro h; simp at h; omega
  | k + 1, u => by
    by_cases hu : u < 10
    · rw [dec_small hu]
      have : 10 ^ 1 ≤ 10 ^ (k + 1 + 1) := Nat.pow_le_pow_right (by decide) (by omega)
      simp; omega
    · rw [dec_big hu, List.length_append, List.length_singleton]
      have ih := dec_len k (u / 10)
      have e : 10 ^ (k + 1 + 1) = 10 * 10 ^ (k + 1) := by rw [Nat.pow_succ, Nat.mul_comm]
      rw [e]
      constructor
      · intro h; have := ih.1 (by omega); omega
      · intro h; have := ih.2 (by omega); omega
theorem parse_ok : ∀ (l : List UInt8) (k a : Nat), (∀ c ∈ l, digB8 c = true) → a < 10 ^ k → k + l.length ≤ 18 → Lib.parseUint10 a l = .ok (numF l a)
  | [], _, _, _, _, _ => rfl
  | c :: l, k, a, hd, ha, hk => by
    have hc := of_decide_eq_true (hd c (List.mem_cons_self ..))
    have e : 10 ^ (k + 1) = 10 * 10 ^ k := by rw [Nat.pow_succ, Nat.mul_comm]
    have hp : 10 ^ (k + 1) ≤ 10 ^ 18 := Nat.pow_le_pow_right (by decide) (by rw [List.length_cons] at hk; omega)
    have hp2 : (10 : Nat) ^ 18 = 1000000000000000000 := by decide
    rw [Lib.parseUint10, if_pos hc, if_neg (by omega), if_neg (by omega)]
    rw [parse_ok l (k + 1) (a * 10 + (c.toNat - 48)) (fun x hx => hd x (List.mem_cons_of_mem _ hx)) (by omega) (by rw [List.length_cons] at hk; omega)]
    show Lib.NumEnd.ok (numF l _) = .ok (numF l (10 * a + (c.toNat - 48)))
    rw [Nat.mul_comm a 10]
theorem atoi_digits {l : List UInt8} (h : canonL l) (hk : l.length ≤ 18) : Lib.atoiAll l = .ok ((numF l 0 : Nat) : Int) := by
  obtain ⟨h1, h2, _⟩ := h
  cases l with
  | nil => exact absurd rfl h1
  | cons c r =>
    have hc := of_decide_eq_true (h2 c (List.mem_cons_self ..))
    have hp := parse_ok (c :: r) 0 0 h2 (by decide) (by omega)
    unfold Lib.atoiAll
    dsimp only
    rw [if_neg (by omega)]
    unfold Lib.parseMag
    rw [if_neg (by simp), hp]
    dsimp only
    have hlt : numF (c :: r) 0 < 10 ^ 18 := by
      have key : ∀ (l : List UInt8) (k a : Nat), (∀ c ∈ l, digB8 c = true) → a < 10 ^ k → numF l a < 10 ^ (k + l.length) := by
        intro l
        induction l with
        | nil => intro k a _ ha; exact ha
        | cons x l ih =>
          intro k a hd ha
          have hx := of_decide_eq_true (hd x (List.mem_cons_self ..))
          have e : 10 ^ (k + 1) = 10 * 10 ^ k := by rw [Nat.pow_succ, Nat.mul_comm]
          have := ih (k + 1) (10 * a + (x.toNat - 48)) (fun y hy => hd y (List.mem_cons_of_mem _ hy)) (by omega)
          rw [List.length_cons, show k + (l.length + 1) = k + 1 + l.length by omega]
          exact this
      have h3 := key (c :: r) 0 0 h2 (by decide)
      have h4 : 10 ^ (0 + (c :: r).length) ≤ 10 ^ 18 := Nat.pow_le_pow_right (by decide) (by omega)
      omega
    have hp2 : (10 : Nat) ^ 18 = 1000000000000000000 := by decide
    rw [if_neg (by omega), if_neg (by omega), if_neg (by omega)]
def readP (s : ByteArray) : Int := match Lib.atoiAll (bl s) with | .ok v => if s.size ≤ 18 then v else -1 | _ => -1
theorem readP_canon {s : ByteArray} (h : canonL (bl s)) (hk : s.size ≤ 18) : readP s = ((numF (bl s) 0 : Nat) : Int) := by
  unfold readP
  rw [atoi_digits h (by rw [bl_len]; exact hk)]
  dsimp only
  rw [if_pos hk]
theorem readP_size {s : ByteArray} (h : 0 ≤ readP s) : s.size ≤ 18 := by
  unfold readP at h
  split at h
  · split at h
    · assumption
    · omega
  · omega
theorem itoaS_nat (u : Nat) : itoaS (u : Int) = ⟨(Lib.decDigits u).toArray⟩ := by
  unfold itoaS Lib.itoa; rw [if_neg (by omega), Int.toNat_natCast]
theorem itoaS_nn {n : Int} (h : 0 ≤ n) : bl (itoaS n) = Lib.decDigits n.toNat := by
  unfold itoaS Lib.itoa; rw [if_neg (by omega)]; rfl
theorem itoa_canon {n : Int} (h : 0 ≤ n) : canonL (bl (itoaS n)) := by rw [itoaS_nn h]; exact (dec_canon _ _ (Nat.le_refl _)).1
theorem itoa_num {n : Int} (h : 0 ≤ n) : ((numF (bl (itoaS n)) 0 : Nat) : Int) = n := by rw [itoaS_nn h, dec_num _ _ (Nat.le_refl _)]; omega
theorem itoa_sz {n : Int} (h : 0 ≤ n) (k : Nat) : (itoaS n).size ≤ k + 1 ↔ n < 10 ^ (k + 1) := by
  rw [← bl_len, itoaS_nn h, dec_len]
  constructor
  · intro h2
    have h3 : ((n.toNat : Nat) : Int) < ((10 ^ (k + 1) : Nat) : Int) := Int.ofNat_lt.2 h2
    rw [Int.toNat_of_nonneg h] at h3
    simpa using h3
  · intro h2
    have h3 : ((n.toNat : Nat) : Int) < ((10 ^ (k + 1) : Nat) : Int) := by rw [Int.toNat_of_nonneg h]; simpa using h2
    exact Int.ofNat_lt.1 h3
theorem canon_itoa {s : ByteArray} (h : canonL (bl s)) : itoaS ((numF (bl s) 0 : Nat) : Int) = s := by
  rw [itoaS_nat, canon_dec _ _ (Nat.le_refl _) h, bl_str]
theorem readP_itoa {n : Int} (h : 0 ≤ n) (h2 : n < 1000000000000000000) : readP (itoaS n) = n := by
  rw [readP_canon (itoa_canon h) ((itoa_sz h 17).2 (by have : (10 : Int) ^ (17 + 1) = 1000000000000000000 := by decide
                                                       omega)), itoa_num h]
def valP (s : ByteArray) (most : Nat) : Int × Bool := if canonL (bl s) ∧ s.size ≤ most then (((numF (bl s) 0 : Nat) : Int), true) else (0, false)
theorem valP_itoa {n : Int} (h : 0 ≤ n) (k : Nat) (h2 : n < 10 ^ (k + 1)) : valP (itoaS n) (k + 1) = (n, true) := by
  unfold valP; rw [if_pos ⟨itoa_canon h, (itoa_sz h k).2 h2⟩, itoa_num h]
theorem valP_ok {s : ByteArray} {m : Nat} (h : (valP s m).2 = true) : itoaS (valP s m).1 = s ∧ 0 ≤ (valP s m).1 ∧ s.size ≤ m ∧ canonL (bl s) := by
  unfold valP at h ⊢
  split
  · rename_i hc; exact ⟨canon_itoa hc.1, Int.natCast_nonneg _, hc.2, hc.1⟩
  · rename_i hc; rw [if_neg hc] at h; cases h
theorem split_none {e : ByteArray} (h : ∀ c ∈ bl e, c ≠ 58) : splitC e = [e] := by
  unfold splitC
  have : Lib.countB e colon = 0 := by
    show Lib.count (bl e) [58] = 0
    rw [Lib.count_one, List.count_eq_zero]
    exact fun hc => h 58 hc rfl
  rw [this, Lib.splitB_zero]
theorem bl_app (a b : ByteArray) : bl (a ++ b) = bl a ++ bl b := by
  unfold bl; rw [ByteArray.data_append, Array.toList_append]
theorem ext_app_l (a b : ByteArray) : (a ++ b).extract 0 a.size = a := by
  have : bl ((a ++ b).extract 0 a.size) = bl a := by
    show ((a ++ b).extract 0 a.size).data.toList = _
    rw [ByteArray.data_extract, Array.toList_extract, List.extract_eq_take_drop]
    show ((bl (a ++ b)).drop 0).take (a.size - 0) = _
    rw [bl_app, List.drop_zero, Nat.sub_zero, ← bl_len a, List.take_left]
  rw [← bl_str ((a ++ b).extract 0 a.size), this, bl_str]
theorem ext_app_r (a b : ByteArray) : (a ++ b).extract a.size (a ++ b).size = b := by
  have : bl ((a ++ b).extract a.size (a ++ b).size) = bl b := by
    show ((a ++ b).extract a.size (a ++ b).size).data.toList = _
    rw [ByteArray.data_extract, Array.toList_extract, List.extract_eq_take_drop]
    show ((bl (a ++ b)).drop a.size).take _ = _
    rw [bl_app, ← bl_len a, List.drop_left, ByteArray.size_append, ← bl_len a, ← bl_len b, Nat.add_sub_cancel_left, List.take_length]
  rw [← bl_str ((a ++ b).extract a.size (a ++ b).size), this, bl_str]
theorem idx_byte : ∀ (a b : List UInt8) (x : UInt8), (∀ c ∈ a, c ≠ x) → Lib.indexByte (a ++ x :: b) x = (a.length : Nat)
  | [], b, x, _ => by show Lib.indexByte (x :: b) x = 0; unfold Lib.indexByte; rw [if_pos (by simp)]
  | y :: a, b, x, h => by
    have ih := idx_byte a b x (fun c hc => h c (List.mem_cons_of_mem _ hc))
    have hy := h y (List.mem_cons_self ..)
    show Lib.indexByte (y :: (a ++ x :: b)) x = _
    unfold Lib.indexByte
    rw [if_neg (by simpa using hy), ih, if_neg (by simp), List.length_cons]
    omega
theorem idx_sep (a b : ByteArray) (x : UInt8) (h : ∀ c ∈ bl a, c ≠ x) : Lib.indexB ((a ++ ⟨#[x]⟩) ++ b) ⟨#[x]⟩ = (a.size : Nat) := by
  show Lib.index (bl ((a ++ ⟨#[x]⟩) ++ b)) [x] = _
  rw [Lib.index_one, bl_app, bl_app, List.append_assoc]
  show Lib.indexByte (bl a ++ x :: bl b) x = _
  rw [idx_byte _ _ _ h, bl_len]
theorem split_one {a b : ByteArray} (ha : ∀ c ∈ bl a, c ≠ 58) (hb : ∀ c ∈ bl b, c ≠ 58) : splitC ((a ++ ⟨#[58]⟩) ++ b) = [a, b] := by
  unfold splitC
  have : Lib.countB ((a ++ ⟨#[58]⟩) ++ b) colon = 1 := by
    show Lib.count (bl ((a ++ ⟨#[58]⟩) ++ b)) [58] = 1
    rw [Lib.count_one, bl_app, bl_app, List.count_append, List.count_append, List.count_eq_zero.2 (fun hc => ha 58 hc rfl), List.count_eq_zero.2 (fun hc => hb 58 hc rfl)]
    rfl
  rw [this, Lib.splitB_hit colon 0 0 _ a.size (idx_sep a b 58 ha), Lib.splitB_zero]
  have e1 : colon.size = 1 := rfl
  have e2 : a.size + colon.size = (a ++ (⟨#[58]⟩ : ByteArray)).size := by rw [ByteArray.size_append, e1]; rfl
  rw [e2, ext_app_r, Nat.add_zero, ByteArray.append_assoc, ext_app_l]
theorem dig_ne {c x : UInt8} (h : digB8 c = true) (hx : x.toNat < 48 ∨ 57 < x.toNat) : c ≠ x := fun e => by
  have := of_decide_eq_true h
  rw [e] at this; omega
theorem itoa_ne {n : Int} (h : 0 ≤ n) {x : UInt8} (hx : x.toNat < 48 ∨ 57 < x.toNat) : ∀ c ∈ bl (itoaS n), c ≠ x := fun c hc => dig_ne ((itoa_canon h).2.1 c hc) hx
end Go.PK

namespace Go.PK
open Go Go.RowKit
def Ord.okA (o : Ord) : Prop := o.ok ∧ in64 o.prom ∧ in64 o.paid ∧ in64 o.st
def tyOrd : Ty Ord where
  size := 9
  rd := fun _ _ cs o => cs = o.cells ∧ o.okA
  len := fun h => by rw [h.1]; rfl
  keep := fun h _ => h
theorem ord_at {D : Nat → Prop} {w : World} {A : Option Addr} {l c : Nat} {xs : List Ord} (h : sliceRd tyOrd D w (.slice A l c) xs) {k : Nat} (hk : k < xs.length) :
    ∃ b off, A = some ⟨b, off, none⟩ ∧ D b ∧ (∀ i (hi : i < 9), w.cell? ⟨b, off + k * 9 + i, none⟩ = some (xs[k].cells[i]'hi)) ∧ xs[k].okA := by
  obtain ⟨A', c', e, h1, h2, h3⟩ := h
  injection e with e1 e2 e3
  subst e1 e2 e3
  obtain ⟨b, off, rfl, hD, hb, hc⟩ := h3 (by omega)
  obtain ⟨cs, hcs, rfl, hok⟩ := hc k hk
  exact ⟨b, off, rfl, hD, fun i hi => hcs i hi, hok⟩
def txO (l : List Seg) (n e c : Nat) : Option ByteArray := ((l[n]?).bind fun x => x.els[e]?).bind fun y => y[c]?
def txt (l : List Seg) (n e c : Nat) : ByteArray := (txO l n e c).getD ⟨#[]⟩
def atP (l : List Seg) (n e c : Nat) : Int × Bool := match txO l n e c with | some s => valP s 9 | none => (0, false)
def cutD (s : ByteArray) : ByteArray × ByteArray × Bool := (⟨(Lib.cut (bl s) [46]).1.toArray⟩, ⟨(Lib.cut (bl s) [46]).2.1.toArray⟩, (Lib.cut (bl s) [46]).2.2)
def recS (s : ByteArray) : Int × Int := (readP (cutD s).1, readP (cutD s).2.1)
def rrecS (s : ByteArray) : (Int × Int) × Bool := if (cutD s).2.2 then (((valP (cutD s).1 9).1, (valP (cutD s).2.1 9).1), (valP (cutD s).1 9).2 && (valP (cutD s).2.1 9).2) else ((0, 0), false)
def rrec (l : List Seg) (n : Nat) : (Int × Int) × Bool := match (l[n]?).bind (fun x => x.els[2]?) with | none => ((0, 0), false) | some y => match y[0]? with | none => ((0, 0), false) | some s => rrecS s
theorem cut_at {s : ByteArray} {k : Nat} (hk : k < s.size) (h1 : ∀ j, j < k → byteAt s j ≠ 46) (h2 : byteAt s k = 46) : cutD s = (s.extract 0 k, s.extract (k + 1) s.size, true) := by
  have hi : Lib.index (bl s) [46] = (k : Nat) := by
    have e : bl s = (bl s).take k ++ 46 :: (bl s).drop (k + 1) := by
      rw [← h2, ← bl_get (by rw [bl_len]; exact hk), List.getElem_cons_drop, List.take_append_drop]
    rw [Lib.index_one, e, idx_byte _ _ _ (fun c hc => ?_), List.length_take, bl_len]
    · congr 1; omega
    · obtain ⟨j, hj, rfl⟩ := List.getElem_of_mem hc
      rw [List.length_take, bl_len] at hj
      rw [List.getElem_take, bl_get]
      exact h1 j (by omega)
  have e1 : ∀ a b, bl (s.extract a b) = ((bl s).drop a).take (b - a) := fun a b => by
    show (s.extract a b).data.toList = _
    rw [ByteArray.data_extract, Array.toList_extract, List.extract_eq_take_drop]; rfl
  unfold cutD Lib.cut
  rw [hi]
  simp only [show ((k : Nat) : Int) ≥ 0 from Int.natCast_nonneg k, if_true, Int.toNat_natCast]
  refine Prod.ext ?_ (Prod.ext ?_ ?_)
  · show (⟨_⟩ : ByteArray) = s.extract 0 k
    rw [← bl_str (s.extract 0 k), e1]
    simp
  · show (⟨_⟩ : ByteArray) = s.extract (k + 1) s.size
    rw [← bl_str (s.extract (k + 1) s.size), e1, List.take_of_length_le (by rw [List.length_drop, bl_len]; exact Nat.le_refl _)]
    simp
  · simp
def mkO (id fund : Int) (r : Int × Int) (copies price : Int) : Ord := ⟨id, fund, r.1, r.2, copies, price, 0, 0, 0⟩
def zeroO : Ord := ⟨0, 0, 0, 0, 0, 0, 0, 0, 0⟩
def recT (s n : Int) : ByteArray := (itoaS s ++ ⟨#[46]⟩) ++ itoaS n
def orderX (o : Ord) : List Seg :=
  [⟨⟨#[85, 78, 72]⟩, [[⟨#[49]⟩], [⟨#[79, 82, 68, 69, 82, 83]⟩, ⟨#[68]⟩, ⟨#[57, 54, 65]⟩, ⟨#[85, 78]⟩]]⟩,
   ⟨⟨#[66, 71, 77]⟩, [[⟨#[50, 50, 48]⟩], [itoaS o.id]]⟩,
   ⟨⟨#[76, 73, 78]⟩, [[itoaS 1], [⟨#[]⟩], [recT o.src o.num, ⟨#[83, 82, 86]⟩]]⟩,
   ⟨⟨#[81, 84, 89]⟩, [[⟨#[50, 49]⟩, itoaS o.copies]]⟩,
   ⟨⟨#[80, 82, 73]⟩, [[⟨#[65, 65, 65]⟩, itoaS o.price]]⟩,
   ⟨⟨#[82, 70, 70]⟩, [[⟨#[66, 70, 78]⟩, itoaS o.fund]]⟩,
   ⟨⟨#[85, 78, 84]⟩, [[⟨#[55]⟩], [⟨#[49]⟩]]⟩]
def nnO (o : Ord) : Prop := 0 ≤ o.id ∧ 0 ≤ o.fund ∧ 0 ≤ o.src ∧ 0 ≤ o.num ∧ 0 ≤ o.copies ∧ 0 ≤ o.price
def wrO (o : Ord) : Prop := (1 ≤ o.id ∧ o.id ≤ 999999999) ∧ (1 ≤ o.fund ∧ o.fund ≤ 999999999) ∧ (0 ≤ o.src ∧ o.src ≤ 999999999) ∧ (0 ≤ o.num ∧ o.num ≤ 999999999) ∧ (0 ≤ o.price ∧ o.price ≤ 999999999) ∧ (1 ≤ o.copies ∧ o.copies ≤ 9999)
instance (o : Ord) : Decidable (wrO o) := by unfold wrO; infer_instance
theorem writB_iff (o : Ord) : writB o = true ↔ wrO o := by
  unfold writB wi wrO
  simp only [List.any_cons, List.any_nil, Bool.or_false, Bool.and_eq_true, Bool.not_eq_true', Bool.or_eq_false_iff, decide_eq_false_iff_not]
  omega
theorem wrO_nn {o : Ord} (h : wrO o) : nnO o := by unfold wrO at h; unfold nnO; omega
theorem p3 (a b c : UInt8) (s : ByteArray) : (⟨#[a, b, c]⟩ : ByteArray) ++ s = ((⟨#[a, b]⟩ : ByteArray) ++ ⟨#[c]⟩) ++ s := rfl
theorem p4 (a b c d : UInt8) (s : ByteArray) : (⟨#[a, b, c, d]⟩ : ByteArray) ++ s = ((⟨#[a, b, c]⟩ : ByteArray) ++ ⟨#[d]⟩) ++ s := rfl
theorem c58 : ((58 : UInt8).toNat < 48 ∨ 57 < (58 : UInt8).toNat) := .inr (by decide)
theorem c46 : ((46 : UInt8).toNat < 48 ∨ 57 < (46 : UInt8).toNat) := .inl (by decide)
theorem recT_ne {s n : Int} (h1 : 0 ≤ s) (h2 : 0 ≤ n) : ∀ c ∈ bl (recT s n), c ≠ 58 := by
  intro c hc
  unfold recT at hc
  rw [bl_app, bl_app] at hc
  rcases List.mem_append.1 hc with hc | hc
  · rcases List.mem_append.1 hc with hc | hc
    · exact itoa_ne h1 c58 c hc
    · have : c = 46 := by simpa [bl] using hc
      rw [this]; decide
  · exact itoa_ne h2 c58 c hc
theorem art_split {s n : Int} (h1 : 0 ≤ s) (h2 : 0 ≤ n) : splitC (artS s n) = [recT s n, ⟨#[83, 82, 86]⟩] := by
  have e : artS s n = (recT s n ++ ⟨#[58]⟩) ++ ⟨#[83, 82, 86]⟩ := by
    rw [ByteArray.append_assoc]; rfl
  rw [e, split_one (recT_ne h1 h2) (by decide)]
theorem pre3 {a b : UInt8} {n : Int} (h : 0 ≤ n) (ha : a ≠ 58) (hb : b ≠ 58) : splitC ((⟨#[a, b, 58]⟩ : ByteArray) ++ itoaS n) = [⟨#[a, b]⟩, itoaS n] := by
  rw [p3, split_one (fun c hc => by
    have : c = a ∨ c = b := by simpa [bl] using hc
    rcases this with rfl | rfl <;> assumption) (itoa_ne h c58)]
theorem pre4 {a b d : UInt8} {n : Int} (h : 0 ≤ n) (ha : a ≠ 58) (hb : b ≠ 58) (hd : d ≠ 58) : splitC ((⟨#[a, b, d, 58]⟩ : ByteArray) ++ itoaS n) = [⟨#[a, b, d]⟩, itoaS n] := by
  rw [p4, split_one (fun c hc => by
    have : c = a ∨ c = b ∨ c = d := by simpa [bl] using hc
    rcases this with rfl | rfl | rfl <;> assumption) (itoa_ne h c58)]
theorem itoa_one : itoaS 1 = ⟨#[49]⟩ := by decide +kernel
theorem orderP_X {o : Ord} (h : nnO o) : orderP o = orderX o := by
  obtain ⟨h1, h2, h3, h4, h5, h6⟩ := h
  unfold orderP orderX
  rw [split_none (itoa_ne h1 c58), art_split h3 h4, pre3 h5 (by decide) (by decide), pre4 h6 (by decide) (by decide) (by decide), pre4 h2 (by decide) (by decide) (by decide), itoa_one]
  congr 1
theorem recS_T {s n : Int} (h1 : 0 ≤ s) (h2 : 0 ≤ n) : cutD (recT s n) = (itoaS s, itoaS n, true) := by
  have hsz : (recT s n).size = (itoaS s).size + 1 + (itoaS n).size := by unfold recT; rw [ByteArray.size_append, ByteArray.size_append]; rfl
  have hb : bl (recT s n) = bl (itoaS s) ++ 46 :: bl (itoaS n) := by unfold recT; rw [bl_app, bl_app, List.append_assoc]; rfl
  have hat : ∀ j, byteAt (recT s n) j = (bl (itoaS s) ++ 46 :: bl (itoaS n)).getD j 0 := fun j => by rw [← hb]; rfl
  rw [cut_at (k := (itoaS s).size) (by omega) (fun j hj => ?_) (by rw [hat, ← bl_len, List.getD_eq_getElem?_getD, List.getElem?_append_right (Nat.le_refl _), Nat.sub_self]; rfl)]
  · refine Prod.ext ?_ (Prod.ext ?_ rfl)
    · show (recT s n).extract 0 (itoaS s).size = _
      unfold recT; rw [ByteArray.append_assoc]; exact ext_app_l _ _
    · show (recT s n).extract ((itoaS s).size + 1) (recT s n).size = _
      have e : (itoaS s).size + 1 = (itoaS s ++ (⟨#[46]⟩ : ByteArray)).size := by rw [ByteArray.size_append]; rfl
      rw [e]; exact ext_app_r _ _
  · rw [hat, List.getD_eq_getElem?_getD, List.getElem?_append_left (by rw [bl_len]; exact hj), List.getElem?_eq_getElem (by rw [bl_len]; exact hj)]
    exact itoa_ne h1 c46 _ (List.getElem_mem _)
def rdE (l : List Seg) : Ord := mkO (readP (txt l 1 1 0)) (readP (txt l 5 0 1)) (recS (txt l 2 2 0)) (readP (txt l 3 0 1)) (readP (txt l 4 0 1))
def rdO (l : List Seg) : Ord × Int := if wrO (rdE l) ∧ orderP (rdE l) = l then (rdE l, 0) else (zeroO, 11)
def rdR (l : List Seg) : Ord := mkO (atP l 1 1 0).1 (atP l 5 0 1).1 (rrec l 2).1 (atP l 3 0 1).1 (atP l 4 0 1).1
def rrO (l : List Seg) : Ord × Int := if ((((rrec l 2).2 = true ∧ (atP l 1 1 0).2 = true) ∧ (atP l 3 0 1).2 = true) ∧ (atP l 4 0 1).2 = true) ∧ (atP l 5 0 1).2 = true ∧ wrO (rdR l) ∧ orderX (rdR l) = l then (rdR l, 0) else (zeroO, 11)
theorem val9 {n : Int} (h : 0 ≤ n) (h2 : n ≤ 999999999) : valP (itoaS n) 9 = (n, true) := by
  have e : (10 : Int) ^ (8 + 1) = 1000000000 := by decide
  exact valP_itoa h 8 (by omega)
theorem read9 {n : Int} (h : 0 ≤ n) (h2 : n ≤ 999999999) : readP (itoaS n) = n := readP_itoa h (by omega)
def normO (o : Ord) : Ord := { o with prom := 0, paid := 0, st := 0 }
theorem rd_of {o : Ord} (h : wrO o) : rdE (orderX o) = normO o ∧ rdR (orderX o) = normO o ∧ (rrec (orderX o) 2).2 = true ∧ (atP (orderX o) 1 1 0).2 = true ∧ (atP (orderX o) 3 0 1).2 = true ∧ (atP (orderX o) 4 0 1).2 = true ∧ (atP (orderX o) 5 0 1).2 = true := by
  obtain ⟨⟨a1, a2⟩, ⟨b1, b2⟩, ⟨c1, c2⟩, ⟨d1, d2⟩, ⟨e1, e2⟩, ⟨f1, f2⟩⟩ := h
  have t1 : txO (orderX o) 1 1 0 = some (itoaS o.id) := rfl
  have t2 : txO (orderX o) 2 2 0 = some (recT o.src o.num) := rfl
  have t3 : txO (orderX o) 3 0 1 = some (itoaS o.copies) := rfl
  have t4 : txO (orderX o) 4 0 1 = some (itoaS o.price) := rfl
  have t5 : txO (orderX o) 5 0 1 = some (itoaS o.fund) := rfl
  have hr : rrec (orderX o) 2 = rrecS (recT o.src o.num) := rfl
  have hr2 : rrecS (recT o.src o.num) = ((o.src, o.num), true) := by
    unfold rrecS; rw [recS_T c1 d1]; simp only [if_true, val9 c1 c2, val9 d1 d2]; rfl
  unfold rdE rdR atP txt
  rw [hr, hr2, t1, t2, t3, t4, t5]
  simp only [Option.getD_some, val9 (show 0 ≤ o.id by omega) a2, val9 (show 0 ≤ o.fund by omega) b2, val9 (show 0 ≤ o.copies by omega) (show o.copies ≤ 999999999 by omega), val9 e1 e2, read9 (show 0 ≤ o.id by omega) a2, read9 (show 0 ≤ o.fund by omega) b2, read9 (show 0 ≤ o.copies by omega) (show o.copies ≤ 999999999 by omega), read9 e1 e2]
  refine ⟨?_, ?_, trivial, trivial, trivial, trivial, trivial⟩
  · unfold recS; rw [recS_T c1 d1]; simp only [read9 c1 c2, read9 d1 d2]; rfl
  · rfl
theorem rdO_of {o : Ord} (h : wrO o) : rdO (orderX o) = (normO o, 0) ∧ rrO (orderX o) = (normO o, 0) := by
  obtain ⟨h1, h2, h3, h4, h5, h6, h7⟩ := rd_of h
  have hw : wrO (normO o) := h
  unfold rdO rrO
  rw [h1, h2]
  rw [if_pos ⟨hw, by rw [orderP_X (wrO_nn hw)]; rfl⟩, if_pos ⟨⟨⟨⟨h3, h4⟩, h5⟩, h6⟩, h7, hw, rfl⟩]
  exact ⟨rfl, rfl⟩
end Go.PK

namespace Go.PK
open Go Go.RowKit
section
variable {P : Program} {n : Nat} {l : List (Nat × Value)} {own : List (Nat × Obj)} {ro : List Snap} {ty t t' : TypeId} {x y : Operand} {k k' : IntKind} {a b : Int}
def isIface (v : Value) (b : Bool) : Prop := (v = .nilIface ∧ b = false) ∨ (∃ d u, v = .iface d u) ∧ b = true
theorem v_ine {td : TypeDesc} {v : Value} {b : Bool} (ht : P.underlying t = some td) (hi : (match td with | .interface _ => true | _ => false) = true) (hx : ev l x = some v) (hv : isIface v b) : OpV P n l own ro (.binOp .neq t x (.const .nilIface) t') ty (.bool b) := by
  intro A w o ha _ ho _
  have e : A.eval (.const .nilIface) = .nilIface := rfl
  cases td <;> simp at hi
  rcases hv with ⟨rfl, rfl⟩ | ⟨⟨d, u, rfl⟩, rfl⟩
  · have h : ∀ d : Nat, (Op.equalIn (d + 1) t .nilIface .nilIface).run P w = .ok true w := fun d => by simp [Op.equalIn, run_underlying ht]
    have h2 : (Op.equal t .nilIface .nilIface).run P w = .ok true w := h 9999
    simp [execOp, ho, ha.eval hx, e, eqGuard, binOp, h2]
  · have h : ∀ q : Nat, (Op.equalIn (q + 1) t (.iface d u) .nilIface).run P w = .ok false w := fun q => by simp [Op.equalIn, run_underlying ht]
    have h2 : (Op.equal t (.iface d u) .nilIface).run P w = .ok false w := h 9999
    simp [execOp, ho, ha.eval hx, e, eqGuard, binOp, h2]
theorem v_sliceNil {e : TypeId} {A : Option Addr} {m c : Nat} (ht : P.underlying t = some (.slice e)) (hx : ev l x = some (.slice A m c)) : OpV P n l own ro (.binOp .eql t x (.const (.slice none 0 0)) t') ty (.bool A.isNone) := by
  intro a w o ha _ ho _
  have e0 : a.eval (.const (.slice none 0 0)) = .slice none 0 0 := rfl
  have h : ∀ d : Nat, (Op.equalIn (d + 1) t (.slice A m c) (.slice none 0 0)).run P w = .ok A.isNone w := fun d => by
    cases A <;> simp [Op.equalIn, run_underlying ht]
  have h2 : (Op.equal t (.slice A m c) (.slice none 0 0)).run P w = .ok A.isNone w := h 9999
  simp [execOp, ho, ha.eval hx, e0, eqGuard, binOp, h2]
theorem v_convU8 {td : TypeDesc} {c : Nat} (hs : P.underlying t = some td) (hd : P.underlying t' = some (.int .u8)) (hx : ev l x = some (.int k (c : Nat))) (h : c < 256) : OpV P n l own ro (.convert t t' x) ty (.int .u8 (((UInt8.ofNat c).toNat : Nat) : Int)) := by
  have h3 := v_conv (n := n) (own := own) (ro := ro) (ty := ty) hs hd hx
  rw [IntKind.wrap_u8, show ((c : Nat) : Int) % 256 = ((c : Nat) : Int) by omega] at h3
  rw [UInt8.toNat_ofNat_of_lt' (by show _ < 256; omega)]
  exact h3
end
end Go.PK

namespace Go.PK
open Go Go.RowKit
section
variable {P : Program} {n : Nat} {l : List (Nat × Value)} {own : List (Nat × Obj)} {ro : List Snap} {Q : Exit → Act → World → Prop} {K : Act → World → Prop} {R : Ending → World → Prop} {fn : Func}
theorem retct {t u : Tmp} {ty : TypeId} {td : TypeDesc} {b : Nat} {cs : Array Value} {e : TypeId} {fz : Nat × Nat} {v : Value} (hr : fn.results = #[.cell t ty, .tmp u]) (hv : l.lookup t = some (.pointer (some ⟨b, 0, none⟩))) (hu : l.lookup u = some v) (hb : (b, Obj.cells cs e fz) ∈ own)
    (ht : P.underlying ty = some td) (hd : aggT td = true) (hs : (P.info? ty).map (·.size) = some cs.size) (h : ∀ w', Mem w' own ro → R (.returned (.tuple #[.agg cs, v])) w') : S (bodyPost P fn R .ret) n l own ro := by
  intro a w ha hw
  refine ⟨ha.df, _, ?_, h w hw⟩
  have h1 := ha.at_ t _ hv
  have h2 := ha.at_ u _ hu
  rw [results_cell_tmp hr, show a.tmps.getD t undef = .pointer (some ⟨b, 0, none⟩) by simp [Array.getD_eq_getD_getElem?, h1], show a.tmps.getD u undef = v by simp [Array.getD_eq_getD_getElem?, h2]]
  simp [asAddr, run_loadVar_row w b e ty cs fz td (hw.own_at _ hb) ht (by cases td <;> simp_all [aggT]) hs]
end
theorem calls_clp {P : Program} {f : FuncId} {u v : Value} {w : World} {Q : Ending → World → Prop} (h : Calls P f #[u, v] w Q) : Calls P f (#[u, v] ++ #[]) w Q := by simpa using h
def segD (l : List Seg) (n : Nat) : Seg := l.getD n ⟨⟨#[]⟩, []⟩
def elsD (x : List (List ByteArray)) (e : Nat) : List ByteArray := x.getD e []
theorem seg_there {D : Nat → Prop} {w : World} {A : Option Addr} {m c : Nat} {l : List Seg} (h : sliceRd tySeg D w (.slice A m c) l) (n : Nat) :
    ∃ b off EA ec, n < l.length → A = some ⟨b, off, none⟩ ∧ D b ∧ w.cell? ⟨b, off + n * 2, none⟩ = some (.string (segD l n).tag) ∧ w.cell? ⟨b, off + n * 2 + 1, none⟩ = some (.slice EA (segD l n).els.length ec) ∧ okS (segD l n).tag ∧ sliceRd (tySlice tyStr) D w (.slice EA (segD l n).els.length ec) (segD l n).els := by
  by_cases hn : n < l.length
  · obtain ⟨b, o, v, h1, h2, h3, h4, h5, h6⟩ := seg_at h hn
    obtain ⟨EA, ec, rfl, _⟩ := id h6
    exact ⟨b, o, EA, ec, fun _ => by unfold segD; rw [getD_at hn]; exact ⟨h1, h2, h3, h4, h5, h6⟩⟩
  · exact ⟨0, 0, none, 0, fun h => absurd h hn⟩
theorem els_there {D : Nat → Prop} {w : World} {A : Option Addr} {m c : Nat} {x : List (List ByteArray)} {K : Prop} (h : K → sliceRd (tySlice tyStr) D w (.slice A m c) x) (e : Nat) :
    ∃ b off FA fc, K → e < x.length → A = some ⟨b, off, none⟩ ∧ D b ∧ w.cell? ⟨b, off + e, none⟩ = some (.slice FA (elsD x e).length fc) ∧ sliceRd tyStr D w (.slice FA (elsD x e).length fc) (elsD x e) := by
  by_cases hk : K
  · by_cases he : e < x.length
    · obtain ⟨b, o, v, h1, h2, h3, h4⟩ := sl_at (h hk) he
      obtain ⟨FA, fc, rfl, _⟩ := id h4
      exact ⟨b, o, FA, fc, fun _ _ => by unfold elsD; rw [getD_at he]; exact ⟨h1, h2, h3, h4⟩⟩
    · exact ⟨0, 0, none, 0, fun _ h => absurd h he⟩
  · exact ⟨0, 0, none, 0, fun h => absurd h hk⟩
theorem txO_in {l : List Seg} {n e c : Nat} (h1 : n < l.length) (h2 : e < (segD l n).els.length) (h3 : c < (elsD (segD l n).els e).length) : txO l n e c = some ((elsD (segD l n).els e)[c]) := by
  have k1 : l[n]? = some (segD l n) := by unfold segD; rw [getD_at h1, List.getElem?_eq_getElem h1]
  have k2 : (segD l n).els[e]? = some (elsD (segD l n).els e) := by unfold elsD; rw [getD_at h2, List.getElem?_eq_getElem h2]
  unfold txO
  rw [k1]
  simp only [Option.bind_some, k2]
  rw [List.getElem?_eq_getElem h3]
theorem txO_out {l : List Seg} {n e c : Nat} (h : ¬(n < l.length ∧ e < (segD l n).els.length ∧ c < (elsD (segD l n).els e).length)) : txO l n e c = none := by
  unfold txO
  by_cases h1 : n < l.length
  · have k1 : l[n]? = some (segD l n) := by unfold segD; rw [getD_at h1, List.getElem?_eq_getElem h1]
    rw [k1]
    simp only [Option.bind_some]
    by_cases h2 : e < (segD l n).els.length
    · have k2 : (segD l n).els[e]? = some (elsD (segD l n).els e) := by unfold elsD; rw [getD_at h2, List.getElem?_eq_getElem h2]
      rw [k2]
      simp only [Option.bind_some]
      exact List.getElem?_eq_none (by have := fun h3 => h ⟨h1, h2, h3⟩; omega)
    · rw [List.getElem?_eq_none (by omega)]; rfl
  · rw [List.getElem?_eq_none (by omega)]; rfl
end Go.PK

namespace Go.PK
open Go Go.RowKit
theorem rdO_nil : rdO [] = (zeroO, 11) := by decide +kernel
theorem rdO_order (o : Ord) : rdO (orderR o) = if writB o then (normO o, 0) else (zeroO, 11) := by
  unfold orderR
  by_cases h : writB o = true
  · rw [if_pos h, if_pos h, orderP_X (wrO_nn ((writB_iff o).1 h))]
    exact (rdO_of ((writB_iff o).1 h)).1
  · rw [if_neg h, if_neg h, rdO_nil]
theorem itoa9 {n : Int} (h : 0 ≤ n) (h2 : n ≤ 999999999) : (itoaS n).size ≤ 9 := by
  refine (itoa_sz h 8).2 ?_
  have e : (10 : Int) ^ (8 + 1) = 1000000000 := by decide
  rw [e]; omega
theorem recT9 {s n : Int} (h1 : 0 ≤ s) (h2 : s ≤ 999999999) (h3 : 0 ≤ n) (h4 : n ≤ 999999999) : (recT s n).size ≤ 19 := by
  have e : (recT s n).size = (itoaS s).size + 1 + (itoaS n).size := by unfold recT; rw [ByteArray.size_append, ByteArray.size_append]; rfl
  have := itoa9 h1 h2; have := itoa9 h3 h4; omega
theorem order_big (o : Ord) : ∀ x ∈ orderR o, ∀ y ∈ x.els, ∀ s ∈ y, s.size ≤ 2000000000 := by
  unfold orderR
  by_cases h : writB o = true
  · rw [if_pos h]
    have hw := (writB_iff o).1 h
    rw [orderP_X (wrO_nn hw)]
    obtain ⟨⟨a1, a2⟩, ⟨b1, b2⟩, ⟨c1, c2⟩, ⟨d1, d2⟩, ⟨e1, e2⟩, ⟨f1, f2⟩⟩ := hw
    have k1 := itoa9 (show 0 ≤ o.id by omega) a2
    have k2 := itoa9 (show 0 ≤ o.fund by omega) b2
    have k3 := itoa9 (show 0 ≤ o.copies by omega) (show o.copies ≤ 999999999 by omega)
    have k4 := itoa9 e1 e2
    have k5 := recT9 c1 c2 d1 d2
    have k6 := itoa9 (show (0 : Int) ≤ 1 by omega) (by omega)
    unfold orderX
    simp only [List.forall_mem_cons, List.not_mem_nil, false_imp_iff, implies_true, and_true]
    repeat' apply And.intro
    all_goals first | decide | omega
  · rw [if_neg h]; intro x hx; cases hx
end Go.PK

namespace Go.PK
open Go Go.RowKit
section
variable {P : Program} {n : Nat} {l : List (Nat × Value)} {own : List (Nat × Obj)} {ro : List Snap} {ty t t' : TypeId} {x y : Operand} {xs ys : Array Value} {b : Bool}
theorem v_neA (hm : P.eqGuardType P.depth t = false) (hx : ev l x = some (.agg xs)) (hy : ev l y = some (.agg ys)) (he : ∀ w, (Op.equalIn 10000 t (.agg xs) (.agg ys)).run P w = .ok b w) : OpV P n l own ro (.binOp .neq t x y t') ty (.bool (!b)) := by
  intro A w o ha _ ho _
  simp [execOp, ho, ha.eval hx, ha.eval hy, run_eqGuard_agg w .neq t x y xs ys hm, run_neq_struct, he]
end
end Go.PK

namespace Go.PK
open Go Go.RowKit
def inv4 (k : Nat) (o : Ord) : List Seg :=
  [⟨⟨#[76, 73, 78]⟩, [[itoaS ((k + 1 : Nat) : Int)], [⟨#[]⟩], [recT o.src o.num, ⟨#[83, 82, 86]⟩]]⟩,
   ⟨⟨#[82, 70, 70]⟩, [[⟨#[79, 78]⟩, itoaS o.id]]⟩,
   ⟨⟨#[81, 84, 89]⟩, [[⟨#[52, 55]⟩, itoaS o.copies]]⟩,
   ⟨⟨#[80, 82, 73]⟩, [[⟨#[65, 65, 65]⟩, itoaS o.price]]⟩]
def linesX : Nat → List Ord → List Seg
  | _, [] => []
  | k, o :: t => inv4 k o ++ linesX (k + 1) t
def headX : List Seg :=
  [⟨⟨#[85, 78, 72]⟩, [[⟨#[49]⟩], [⟨#[73, 78, 86, 79, 73, 67]⟩, ⟨#[68]⟩, ⟨#[57, 54, 65]⟩, ⟨#[85, 78]⟩]]⟩, ⟨⟨#[66, 71, 77]⟩, [[⟨#[51, 56, 48]⟩]]⟩]
def tailX (n : Nat) (t : ByteArray) : List Seg :=
  [⟨⟨#[85, 78, 83]⟩, [[⟨#[83]⟩]]⟩, ⟨⟨#[77, 79, 65]⟩, [[⟨#[56, 54]⟩, t]]⟩, ⟨⟨#[85, 78, 84]⟩, [[itoaS ((4 * n + 5 : Nat) : Int)], [⟨#[49]⟩]]⟩]
def withX (ls : List Ord) (t : ByteArray) : List Seg := (headX ++ linesX 0 ls) ++ tailX ls.length t
def pf (o : Ord) : Ord := { o with fund := 1 }
def payP (ls : List Ord) : Prop := 1 ≤ ls.length ∧ ls.length ≤ 999 ∧ ∀ o ∈ ls, wrO (pf o)
instance (ls : List Ord) : Decidable (payP ls) := by unfold payP; infer_instance
def totalP (ls : List Ord) : Int := (ls.map fun o => o.copies * o.price).sum
def invR (ls : List Ord) : List Seg := if payP ls then withX ls (itoaS (totalP ls)) else []
def normI (o : Ord) : Ord := mkO o.id 0 (o.src, o.num) o.copies o.price
theorem linesX_len : ∀ (ls : List Ord) (j : Nat), (linesX j ls).length = 4 * ls.length
  | [], _ => rfl
  | o :: t, j => by
    show (inv4 j o ++ linesX (j + 1) t).length = _
    rw [List.length_append, linesX_len t (j + 1), List.length_cons]
    show 4 + 4 * t.length = _
    omega
theorem linesX_snoc : ∀ (ls : List Ord) (o : Ord) (j : Nat), linesX j (ls ++ [o]) = linesX j ls ++ inv4 (j + ls.length) o
  | [], o, j => by show inv4 j o ++ [] = [] ++ inv4 (j + 0) o; rw [List.append_nil]; rfl
  | p :: t, o, j => by
    show inv4 j p ++ linesX (j + 1) (t ++ [o]) = (inv4 j p ++ linesX (j + 1) t) ++ _
    rw [linesX_snoc t o (j + 1), List.append_assoc, List.length_cons, show j + 1 + t.length = j + (t.length + 1) by omega]
theorem linesX_get : ∀ (ls : List Ord) (j k i : Nat) (hk : k < ls.length), i < 4 → (linesX j ls)[4 * k + i]? = (inv4 (j + k) ls[k])[i]?
  | [], _, _, _, hk, _ => absurd hk (Nat.not_lt_zero _)
  | o :: t, j, 0, i, _, hi => by
    show (inv4 j o ++ linesX (j + 1) t)[4 * 0 + i]? = _
    rw [List.getElem?_append_left (by show _ < 4; omega), show 4 * 0 + i = i by omega]; rfl
  | o :: t, j, k + 1, i, hk, hi => by
    show (inv4 j o ++ linesX (j + 1) t)[4 * (k + 1) + i]? = _
    rw [List.getElem?_append_right (by show 4 ≤ _; omega), show 4 * (k + 1) + i - (inv4 j o).length = 4 * k + i by show _ - 4 = _; omega, linesX_get t (j + 1) k i (by simpa using hk) hi, show j + 1 + k = j + (k + 1) by omega]; rfl
theorem linesX_norm : ∀ (ls : List Ord) (j : Nat), linesX j (ls.map normI) = linesX j ls
  | [], _ => rfl
  | o :: t, j => by
    show inv4 j (normI o) ++ linesX (j + 1) (t.map normI) = inv4 j o ++ linesX (j + 1) t
    rw [linesX_norm t (j + 1)]; rfl
theorem withX_norm (ls : List Ord) (t : ByteArray) : withX (ls.map normI) t = withX ls t := by
  unfold withX; rw [linesX_norm, List.length_map]
theorem withX_len (ls : List Ord) (t : ByteArray) : (withX ls t).length = 4 * ls.length + 5 := by
  unfold withX; rw [List.length_append, List.length_append, linesX_len]; show 2 + _ + 3 = _; omega
theorem withX_get (ls : List Ord) (t : ByteArray) {k i : Nat} (hk : k < ls.length) (hi : i < 4) : (withX ls t)[4 * k + (i + 2)]? = (inv4 k ls[k])[i]? := by
  unfold withX
  rw [List.getElem?_append_left (by rw [List.length_append, linesX_len]; show _ < 2 + _; omega), List.getElem?_append_right (by show 2 ≤ _; omega), show 4 * k + (i + 2) - headX.length = 4 * k + i by show _ - 2 = _; omega, linesX_get ls 0 k i hk hi, Nat.zero_add]
theorem withX_moa (ls : List Ord) (t : ByteArray) : (withX ls t)[(withX ls t).length - 2]? = some ⟨⟨#[77, 79, 65]⟩, [[⟨#[56, 54]⟩, t]]⟩ := by
  rw [withX_len]
  unfold withX
  rw [List.getElem?_append_right (by rw [List.length_append, linesX_len]; show 2 + _ ≤ _; omega), show 4 * ls.length + 5 - 2 - (headX ++ linesX 0 ls).length = 1 by rw [List.length_append, linesX_len]; show _ - (2 + _) = _; omega]
  rfl
theorem withX_inj {ls : List Ord} {t u : ByteArray} (h : withX ls t = withX ls u) : t = u := by
  have h1 := withX_moa ls t
  rw [h, withX_moa] at h1
  simpa using h1.symm
theorem txO_at {l : List Seg} {n : Nat} {x : Seg} (h : l[n]? = some x) (e c : Nat) : txO l n e c = (x.els[e]?).bind fun y => y[c]? := by unfold txO; rw [h]; rfl
def lineE (l : List Seg) (k : Nat) : Ord := mkO (readP (txt l (4 * k + 3) 0 1)) 0 (recS (txt l (4 * k + 2) 2 0)) (readP (txt l (4 * k + 4) 0 1)) (readP (txt l (4 * k + 5) 0 1))
def linesE (l : List Seg) : List Ord := (List.range (min 1000 ((l.length - 3) / 4))).map (lineE l)
def totE (l : List Seg) : ByteArray := txt l (l.length - 2) 0 1
def rdI (l : List Seg) : List Ord × Int :=
  if payP (linesE l) ∧ (invR (linesE l)).length = l.length then
    if invR (linesE l) = l then (linesE l, 0)
    else if 0 ≤ readP (totE l) ∧ itoaS (readP (totE l)) = totE l ∧ withX (linesE l) (totE l) = l then ([], 60) else ([], 11)
  else ([], 11)
def lineR (l : List Seg) (k : Nat) : Ord := mkO (atP l (4 * k + 3) 0 1).1 0 (rrec l (4 * k + 2)).1 (atP l (4 * k + 4) 0 1).1 (atP l (4 * k + 5) 0 1).1
def lineOk (l : List Seg) (k : Nat) : Prop := (rrec l (4 * k + 2)).2 = true ∧ (atP l (4 * k + 3) 0 1).2 = true ∧ (atP l (4 * k + 4) 0 1).2 = true ∧ (atP l (4 * k + 5) 0 1).2 = true
def cntR (l : List Seg) : Nat := (l.length - 5) / 4
def linesR (l : List Seg) : List Ord := (List.range (cntR l)).map (lineR l)
theorem pay_norm {ls : List Ord} (h : payP ls) : payP (ls.map normI) := by
  obtain ⟨h1, h2, h3⟩ := h
  refine ⟨by rw [List.length_map]; exact h1, by rw [List.length_map]; exact h2, fun o ho => ?_⟩
  obtain ⟨p, hp, rfl⟩ := List.mem_map.1 ho
  exact h3 p hp
theorem total_norm (ls : List Ord) : totalP (ls.map normI) = totalP ls := by
  unfold totalP; rw [List.map_map]; rfl
theorem line_of {ls : List Ord} {t : ByteArray} (h : ∀ o ∈ ls, wrO (pf o)) {k : Nat} (hk : k < ls.length) : lineE (withX ls t) k = normI ls[k] ∧ lineR (withX ls t) k = normI ls[k] ∧ lineOk (withX ls t) k := by
  obtain ⟨⟨a1, a2⟩, _, ⟨c1, c2⟩, ⟨d1, d2⟩, ⟨e1, e2⟩, ⟨f1, f2⟩⟩ := h ls[k] (List.getElem_mem hk)
  have g0 := withX_get ls t hk (i := 0) (by omega)
  have g1 := withX_get ls t hk (i := 1) (by omega)
  have g2 := withX_get ls t hk (i := 2) (by omega)
  have g3 := withX_get ls t hk (i := 3) (by omega)
  generalize ls[k] = o at a1 a2 c1 c2 d1 d2 e1 e2 f1 f2 g0 g1 g2 g3 ⊢
  have a1 : 1 ≤ o.id := a1
  have a2 : o.id ≤ 999999999 := a2
  have c1 : 0 ≤ o.src := c1
  have c2 : o.src ≤ 999999999 := c2
  have d1 : 0 ≤ o.num := d1
  have d2 : o.num ≤ 999999999 := d2
  have e1 : 0 ≤ o.price := e1
  have e2 : o.price ≤ 999999999 := e2
  have f1 : 1 ≤ o.copies := f1
  have f2 : o.copies ≤ 9999 := f2
  generalize withX ls t = l at g0 g1 g2 g3 ⊢
  have t0 : txO l (4 * k + 2) 2 0 = some (recT o.src o.num) := (txO_at g0 2 0).trans rfl
  have t1 : txO l (4 * k + 3) 0 1 = some (itoaS o.id) := (txO_at g1 0 1).trans rfl
  have t2 : txO l (4 * k + 4) 0 1 = some (itoaS o.copies) := (txO_at g2 0 1).trans rfl
  have t3 : txO l (4 * k + 5) 0 1 = some (itoaS o.price) := (txO_at g3 0 1).trans rfl
  have hr : rrec l (4 * k + 2) = rrecS (recT o.src o.num) := by unfold rrec; rw [g0]; rfl
  have hr2 : rrecS (recT o.src o.num) = ((o.src, o.num), true) := by
    unfold rrecS; rw [recS_T c1 d1]; simp only [if_true, val9 c1 c2, val9 d1 d2]; rfl
  unfold lineE lineR lineOk atP txt
  rw [hr, hr2, t0, t1, t2, t3]
  simp only [Option.getD_some, val9 (show 0 ≤ o.id by omega) a2, val9 (show 0 ≤ o.copies by omega) (show o.copies ≤ 999999999 by omega), val9 e1 e2, read9 (show 0 ≤ o.id by omega) a2, read9 (show 0 ≤ o.copies by omega) (show o.copies ≤ 999999999 by omega), read9 e1 e2]
  refine ⟨?_, rfl, trivial, trivial, trivial, trivial⟩
  unfold recS; rw [recS_T c1 d1]; simp only [read9 c1 c2, read9 d1 d2]; rfl
theorem map_range {α : Type} {ls : List Ord} {n : Nat} {f : Nat → α} {g : Ord → α} (hn : n = ls.length) (h : ∀ k (hk : k < ls.length), f k = g ls[k]) : (List.range n).map f = ls.map g := by
  subst hn
  refine List.ext_getElem (by simp) fun i h1 h2 => ?_
  simp only [List.getElem_map, List.getElem_range]
  exact h i (by simpa using h1)
theorem lines_of {ls : List Ord} {t : ByteArray} (h : payP ls) : linesE (withX ls t) = ls.map normI ∧ linesR (withX ls t) = ls.map normI ∧ cntR (withX ls t) = ls.length := by
  obtain ⟨h1, h2, h3⟩ := h
  have e : cntR (withX ls t) = ls.length := by unfold cntR; rw [withX_len]; omega
  refine ⟨map_range (by rw [withX_len]; omega) fun k hk => (line_of h3 hk).1, map_range e fun k hk => (line_of h3 hk).2.1, e⟩
theorem tot_of (ls : List Ord) (t : ByteArray) : totE (withX ls t) = t := by
  unfold totE txt
  rw [txO_at (withX_moa ls t)]; rfl
theorem total_le : ∀ {ls : List Ord}, (∀ o ∈ ls, wrO (pf o)) → 0 ≤ totalP ls ∧ totalP ls ≤ 10000000000000 * (ls.length : Int)
  | [], _ => ⟨Int.le_refl _, by show (0 : Int) ≤ _; simp⟩
  | o :: t, h => by
    obtain ⟨h1, h2⟩ := total_le (ls := t) fun p hp => h p (List.mem_cons_of_mem _ hp)
    obtain ⟨_, _, _, _, ⟨e1, e2⟩, ⟨f1, f2⟩⟩ := h o (List.mem_cons_self ..)
    have e1 : 0 ≤ o.price := e1
    have e2 : o.price ≤ 999999999 := e2
    have f1 : 1 ≤ o.copies := f1
    have f2 : o.copies ≤ 9999 := f2
    have e : totalP (o :: t) = o.copies * o.price + totalP t := by unfold totalP; rw [List.map_cons, List.sum_cons]
    have g1 : 0 ≤ o.copies * o.price := Int.mul_nonneg (by omega) e1
    have g2 : o.copies * o.price ≤ 9999 * 999999999 := Int.mul_le_mul f2 e2 e1 (by decide)
    rw [e, List.length_cons]
    constructor <;> omega
theorem canon_iff (t : ByteArray) : (valP t 18).2 = true ↔ 0 ≤ readP t ∧ itoaS (readP t) = t := by
  constructor
  · intro h
    obtain ⟨_, _, h3, h4⟩ := valP_ok h
    rw [readP_canon h4 h3]
    exact ⟨by omega, canon_itoa h4⟩
  · intro ⟨h1, h2⟩
    have h3 := readP_size h1
    have h4 := itoa_canon h1
    rw [h2] at h4
    unfold valP
    rw [if_pos ⟨h4, h3⟩]
theorem tot_eq {ls : List Ord} {t : ByteArray} (h : payP ls) : itoaS (totalP ls) = t ↔ (valP t 18).2 = true ∧ (valP t 18).1 = totalP ls := by
  obtain ⟨h1, h2, h3⟩ := h
  obtain ⟨h4, h5⟩ := total_le h3
  have hb : totalP ls < 1000000000000000000 := by omega
  constructor
  · rintro rfl
    have := valP_itoa h4 17 (by have e : (10 : Int) ^ (17 + 1) = 1000000000000000000 := by decide
                                rw [e]; exact hb)
    rw [this]; exact ⟨rfl, rfl⟩
  · intro ⟨h6, h7⟩
    rw [← h7]; exact (valP_ok h6).1
theorem rdI_with {ls : List Ord} (h : payP ls) (t : ByteArray) : rdI (withX ls t) = if (valP t 18).2 = true then (if (valP t 18).1 = totalP ls then (ls.map normI, 0) else ([], 60)) else ([], 11) := by
  unfold rdI
  obtain ⟨h1, h2, h3⟩ := lines_of (t := t) h
  rw [h1, tot_of]
  have hx : invR (ls.map normI) = withX ls (itoaS (totalP ls)) := by unfold invR; rw [if_pos (pay_norm h), withX_norm, total_norm]
  rw [hx, withX_len, withX_len, withX_norm, if_pos ⟨pay_norm h, rfl⟩]
  have e1 : (withX ls (itoaS (totalP ls)) = withX ls t) ↔ itoaS (totalP ls) = t := ⟨fun q => withX_inj q, fun q => by rw [q]⟩
  by_cases hc : (valP t 18).2 = true
  · rw [if_pos hc]
    by_cases hv : (valP t 18).1 = totalP ls
    · rw [if_pos hv, if_pos (e1.2 ((tot_eq h).2 ⟨hc, hv⟩))]
    · rw [if_neg hv, if_neg (fun q => hv ((tot_eq h).1 (e1.1 q)).2), if_pos ⟨((canon_iff t).1 hc).1, ((canon_iff t).1 hc).2, rfl⟩]
  · rw [if_neg hc, if_neg (fun q => hc ((tot_eq h).1 (e1.1 q)).1), if_neg (fun q => hc ((canon_iff t).2 ⟨q.1, q.2.1⟩))]
theorem not_pay_nil : ¬payP [] := fun h => absurd h.1 (by decide)
theorem rdI_nil : rdI [] = ([], 11) := by
  unfold rdI
  rw [if_neg]
  intro h
  exact not_pay_nil h.1
theorem rdI_inv (ls : List Ord) : rdI (invR ls) = if payP ls then (ls.map normI, 0) else ([], 11) := by
  unfold invR
  by_cases h : payP ls
  · rw [if_pos h, if_pos h, rdI_with h]
    obtain ⟨h1, h2⟩ := (tot_eq h).1 rfl
    rw [if_pos h1, if_pos h2]
  · rw [if_neg h, if_neg h, rdI_nil]
theorem invR_len (ls : List Ord) : (invR ls).length = if payP ls then 4 * ls.length + 5 else 0 := by
  unfold invR
  by_cases h : payP ls
  · rw [if_pos h, if_pos h, withX_len]
  · rw [if_neg h, if_neg h]; rfl
end Go.PK

namespace Go.PK
open Go Go.RowKit
theorem snocM {α : Type} {T : Ty α} {D : Nat → Prop} {ws : World} {r' : RowS} {xs ys : List α} {css css' : List (List Value)} {n m : Nat} (hn : xs.length = n) (h1 : css.length = n) (h3 : ∀ j (h1 : j < css.length) (h2 : j < xs.length), T.rd D ws css[j] xs[j])
    (hr : rowOK T.size r' (n + m) (css.flatten ++ css'.flatten)) (hm : m = ys.length) (hx : RdAll T D ws css' ys) : RowT T D ws r' (xs ++ ys) := by
  subst hn hm
  refine ⟨css ++ css', by simp [h1, hx.len.1], by rw [List.length_append, List.flatten_append]; exact hr, fun j a b => ?_⟩
  by_cases hj : j < css.length
  · rw [List.getElem_append_left hj, List.getElem_append_left (by omega)]; exact h3 j hj (by omega)
  · have := hx.at (j - css.length) (by simp at a; omega) (by simp at b; omega)
    rw [List.getElem_append_right (by omega), List.getElem_append_right (by omega)]
    simpa [h1] using this
theorem totalP_snoc : ∀ (l : List Ord) (o : Ord), totalP (l ++ [o]) = totalP l + o.copies * o.price
  | [], o => by unfold totalP; simp
  | p :: t, o => by
    have ih := totalP_snoc t o
    unfold totalP at ih ⊢
    rw [List.cons_append, List.map_cons, List.sum_cons, ih, List.map_cons, List.sum_cons, Int.add_assoc]
theorem total_take {ls : List Ord} (h : ∀ o ∈ ls, wrO (pf o)) (k : Nat) : 0 ≤ totalP (ls.take k) ∧ totalP (ls.take k) ≤ 10000000000000 * ((min k ls.length : Nat) : Int) := by
  have := total_le (ls := ls.take k) fun o ho => h o (List.mem_of_mem_take ho)
  rwa [List.length_take] at this
theorem line_rng {o : Ord} (h : wrO (pf o)) : 0 ≤ o.copies * o.price ∧ o.copies * o.price ≤ 9998999990001 ∧ (0 ≤ o.id ∧ o.id ≤ 999999999) ∧ (0 ≤ o.src ∧ o.src ≤ 999999999) ∧ (0 ≤ o.num ∧ o.num ≤ 999999999) ∧ (0 ≤ o.copies ∧ o.copies ≤ 9999) ∧ 0 ≤ o.price ∧ o.price ≤ 999999999 := by
  obtain ⟨⟨a1, a2⟩, _, ⟨c1, c2⟩, ⟨d1, d2⟩, ⟨e1, e2⟩, ⟨f1, f2⟩⟩ := h
  have a1 : 1 ≤ o.id := a1
  have a2 : o.id ≤ 999999999 := a2
  have c1 : 0 ≤ o.src := c1
  have c2 : o.src ≤ 999999999 := c2
  have d1 : 0 ≤ o.num := d1
  have d2 : o.num ≤ 999999999 := d2
  have e1 : 0 ≤ o.price := e1
  have e2 : o.price ≤ 999999999 := e2
  have f1 : 1 ≤ o.copies := f1
  have f2 : o.copies ≤ 9999 := f2
  have g1 : 0 ≤ o.copies * o.price := Int.mul_nonneg (by omega) e1
  have g2 : o.copies * o.price ≤ 9999 * 999999999 := Int.mul_le_mul f2 e2 e1 (by decide)
  omega
theorem pf_ok {o : Ord} (h : o.okA) : (pf o).ok := by
  obtain ⟨⟨h1, _, h3, h4, h5, h6⟩, _⟩ := h
  exact ⟨h1, by show in64 1; unfold in64; decide, h3, h4, h5, h6⟩
theorem take_snoc {α : Type} {ls : List α} {k : Nat} (hk : k < ls.length) : ls.take (k + 1) = ls.take k ++ [ls[k]] := List.take_succ_eq_append_getElem hk
theorem take_all_wr {ls : List Ord} {k : Nat} (hk : k < ls.length) (h : ∀ o ∈ ls.take k, wrO (pf o)) (h2 : wrO (pf ls[k])) : ∀ o ∈ ls.take (k + 1), wrO (pf o) := fun o ho => by
  rw [take_snoc hk] at ho
  rcases List.mem_append.1 ho with h3 | h3
  · exact h o h3
  · rw [List.mem_singleton.1 h3]; exact h2
theorem linesX_take {ls : List Ord} {k : Nat} (hk : k < ls.length) : headX ++ linesX 0 (ls.take (k + 1)) = (headX ++ linesX 0 (ls.take k)) ++ inv4 k ls[k] := by
  rw [take_snoc hk, linesX_snoc, List.length_take, List.append_assoc, show 0 + min k ls.length = k by omega]
theorem hl_len {ls : List Ord} {k : Nat} (hk : k ≤ ls.length) : (headX ++ linesX 0 (ls.take k)).length = 2 + 4 * k := by
  rw [List.length_append, linesX_len, List.length_take, Nat.min_eq_left hk]; rfl
end Go.PK

namespace Go.PK
open Go Go.RowKit
theorem RowT.any {α : Type} {T : Ty α} {D' : Nat → Prop} {w wx : World} {own : List (Nat × Obj)} {ro : List Snap} {e : TypeId} {r : RowS} {xs : List α} {v : Nat} (h : RowT T (fun _ => False) wx r xs) (hm : Mem w own ro) (hin : ∀ p ∈ rowO e r, p ∈ own) (hD : ∀ p ∈ rowO e r, D' p.1) (hv : v = xs.length) : sliceRd T D' w (rowV r v) xs :=
  RowT.rd (D := fun _ => False) (w := w) (h.keep (fun k hk _ => hk.elim)) hm hin (fun _ hx => hx.elim) hD hv
theorem Kept.made0 {w wa wb w0 : World} {own own1 : List (Nat × Obj)} {ro ro1 : List Snap} (h : Mem w0 own ro) (hm : Mem wa own1 ro1) (hs : (wb, notOwn own1) ∈ ro) (hw : (w, fun _ => True) ∈ ro1) : Kept (fun b => wa.heap.size ≤ b) (fun b => w.heap.size ≤ b) wb w0 := fun k hk hlt => by
  obtain ⟨h1, h2⟩ := Kept.made (w := w) h hs hm (hm.base hw).size k hk hlt
  exact ⟨h1.1, h2⟩
theorem range_snoc {α : Type} (f : Nat → α) (k : Nat) : (List.range (k + 1)).map f = (List.range k).map f ++ [f k] := by rw [List.range_succ, List.map_append]; rfl
end Go.PK

namespace Go.PK
open Go Go.RowKit
def esOk (L : List ByteArray) (T : List (List ByteArray)) : Prop := L.map splitC = T ∧ ∀ s ∈ L, s.size ≤ 100
theorem es_unh : esOk [⟨#[49]⟩, ⟨#[73, 78, 86, 79, 73, 67, 58, 68, 58, 57, 54, 65, 58, 85, 78]⟩] [[⟨#[49]⟩], [⟨#[73, 78, 86, 79, 73, 67]⟩, ⟨#[68]⟩, ⟨#[57, 54, 65]⟩, ⟨#[85, 78]⟩]] :=
  ⟨by decide +kernel, by decide⟩
theorem es_bgm : esOk [⟨#[51, 56, 48]⟩] [[⟨#[51, 56, 48]⟩]] := ⟨by decide +kernel, by decide⟩
theorem es_uns : esOk [⟨#[83]⟩] [[⟨#[83]⟩]] := ⟨by decide +kernel, by decide⟩
theorem split_nil : splitC ⟨#[]⟩ = [⟨#[]⟩] := by decide +kernel
theorem split_1 : splitC ⟨#[49]⟩ = [⟨#[49]⟩] := by decide +kernel
theorem sz_cons {L : List ByteArray} {s : ByteArray} (h : s.size ≤ 100) (t : ∀ x ∈ L, x.size ≤ 100) : ∀ x ∈ s :: L, x.size ≤ 100 := fun x hx => by
  rcases List.mem_cons.1 hx with rfl | hx
  · exact h
  · exact t x hx
theorem sz_nil : ∀ x ∈ ([] : List ByteArray), x.size ≤ 100 := fun x hx => by cases hx
theorem es_lin {n : Int} {o : Ord} (hn : 0 ≤ n) (hi : in64 n) (h1 : 0 ≤ o.src) (h2 : 0 ≤ o.num) (i1 : in64 o.src) (i2 : in64 o.num) : esOk [itoaS n, ⟨#[]⟩, artS o.src o.num] [[itoaS n], [⟨#[]⟩], [recT o.src o.num, ⟨#[83, 82, 86]⟩]] :=
  ⟨by rw [List.map_cons, List.map_cons, List.map_cons, List.map_nil, split_none (itoa_ne hn c58), split_nil, art_split h1 h2], sz_cons (Nat.le_trans (itoaS_size hi) (by decide)) (sz_cons (by decide) (sz_cons (Nat.le_trans (artS_size i1 i2) (by decide)) sz_nil))⟩
theorem es_p3 {a b : UInt8} {n : Int} (h : 0 ≤ n) (hi : in64 n) (ha : a ≠ 58) (hb : b ≠ 58) : esOk [(⟨#[a, b, 58]⟩ : ByteArray) ++ itoaS n] [[⟨#[a, b]⟩, itoaS n]] :=
  ⟨by rw [List.map_cons, List.map_nil, pre3 h ha hb], sz_cons (by rw [ByteArray.size_append]; have := itoaS_size hi; show 3 + _ ≤ _; omega) sz_nil⟩
theorem es_p4 {a b d : UInt8} {n : Int} (h : 0 ≤ n) (hi : in64 n) (ha : a ≠ 58) (hb : b ≠ 58) (hd : d ≠ 58) : esOk [(⟨#[a, b, d, 58]⟩ : ByteArray) ++ itoaS n] [[⟨#[a, b, d]⟩, itoaS n]] :=
  ⟨by rw [List.map_cons, List.map_nil, pre4 h ha hb hd], sz_cons (by rw [ByteArray.size_append]; have := itoaS_size hi; show 4 + _ ≤ _; omega) sz_nil⟩
theorem es_unt {n : Int} (h : 0 ≤ n) (hi : in64 n) : esOk [itoaS n, ⟨#[49]⟩] [[itoaS n], [⟨#[49]⟩]] :=
  ⟨by rw [List.map_cons, List.map_cons, List.map_nil, split_none (itoa_ne h c58), split_1], sz_cons (Nat.le_trans (itoaS_size hi) (by decide)) (sz_cons (by decide) sz_nil)⟩
end Go.PK

namespace Go.PK
open Go Go.RowKit
theorem itoa21 {n : Int} (h : in64 n) : (itoaS n).size ≤ 2000000000 := Nat.le_trans (itoaS_size h) (by decide)
theorem in64_9 {n : Int} (h : 0 ≤ n) (h2 : n ≤ 999999999) : in64 n := by unfold in64; omega
theorem inv4_big {k : Nat} {o : Ord} (hk : k ≤ 1000000) (h : wrO (pf o)) : ∀ x ∈ inv4 k o, ∀ y ∈ x.els, ∀ s ∈ y, s.size ≤ 2000000000 := by
  obtain ⟨_, _, ⟨r1, r2⟩, ⟨r3, r4⟩, ⟨r5, r6⟩, ⟨r7, r8⟩, r9, r10⟩ := line_rng h
  have k1 := itoa21 (in64_9 r1 r2)
  have k2 := itoa21 (n := ((k + 1 : Nat) : Int)) (by unfold in64; omega)
  have k3 := itoa21 (in64_9 r7 (show o.copies ≤ 999999999 by omega))
  have k4 := itoa21 (in64_9 r9 r10)
  have k5 := recT9 r3 r4 r5 r6
  unfold inv4
  simp only [List.forall_mem_cons, List.not_mem_nil, false_imp_iff, implies_true, and_true]
  repeat' apply And.intro
  all_goals first | decide | omega
theorem linesX_big : ∀ (ls : List Ord) (j : Nat), (∀ o ∈ ls, wrO (pf o)) → j + ls.length ≤ 1000000 → ∀ x ∈ linesX j ls, ∀ y ∈ x.els, ∀ s ∈ y, s.size ≤ 2000000000
  | [], _, _, _ => fun x hx => by cases hx
  | o :: t, j, h, hj => fun x hx => by
    have hx : x ∈ inv4 j o ++ linesX (j + 1) t := hx
    rw [List.length_cons] at hj
    rcases List.mem_append.1 hx with h1 | h1
    · exact inv4_big (by omega) (h o (List.mem_cons_self ..)) x h1
    · exact linesX_big t (j + 1) (fun p hp => h p (List.mem_cons_of_mem _ hp)) (by omega) x h1
theorem withX_big {ls : List Ord} {t : ByteArray} (h : ∀ o ∈ ls, wrO (pf o)) (hn : ls.length ≤ 1000) (ht : t.size ≤ 2000000000) : ∀ x ∈ withX ls t, ∀ y ∈ x.els, ∀ s ∈ y, s.size ≤ 2000000000 := fun x hx => by
  unfold withX at hx
  rcases List.mem_append.1 hx with h1 | h1
  · rcases List.mem_append.1 h1 with h2 | h2
    · have hh : ∀ x ∈ headX, ∀ y ∈ x.els, ∀ s ∈ y, s.size ≤ 2000000000 := by
        unfold headX
        simp only [List.forall_mem_cons, List.not_mem_nil, false_imp_iff, implies_true, and_true]
        decide
      exact hh x h2
    · exact linesX_big ls 0 h (by omega) x h2
  · have k1 := itoa21 (n := ((4 * ls.length + 5 : Nat) : Int)) (by unfold in64; omega)
    have hh : ∀ x ∈ tailX ls.length t, ∀ y ∈ x.els, ∀ s ∈ y, s.size ≤ 2000000000 := by
      unfold tailX
      simp only [List.forall_mem_cons, List.not_mem_nil, false_imp_iff, implies_true, and_true]
      repeat' apply And.intro
      all_goals first | decide | omega
    exact hh x h1
theorem invR_big (ls : List Ord) : ∀ x ∈ invR ls, ∀ y ∈ x.els, ∀ s ∈ y, s.size ≤ 2000000000 := by
  unfold invR
  by_cases h : payP ls
  · rw [if_pos h]
    obtain ⟨h1, h2, h3⟩ := id h
    obtain ⟨t1, t2⟩ := total_le h3
    exact withX_big h3 (by omega) (itoa21 (by unfold in64; omega))
  · rw [if_neg h]; intro x hx; cases hx
end Go.PK

namespace Go.PK
open Go Go.RowKit
def Suf (s : ByteArray) (a : Nat) (l : List UInt8) : Prop := s.data.toList.drop a = l ∧ a ≤ s.size
theorem ba_len (s : ByteArray) : s.data.toList.length = s.size := by rw [Array.length_toList]; rfl
theorem Suf.cons {s : ByteArray} {a : Nat} {x : UInt8} {l : List UInt8} (h : Suf s a (x :: l)) : a < s.size ∧ byteAt s a = x ∧ Suf s (a + 1) l := by
  obtain ⟨h1, h2⟩ := h
  have hl := congrArg List.length h1
  rw [List.length_drop, ba_len, List.length_cons] at hl
  have hlt : a < s.size := by omega
  have h3 : s.data.toList[a]? = some x := by
    have := congrArg (fun q => q[0]?) h1
    simpa [List.getElem?_drop] using this
  refine ⟨hlt, ?_, ?_, by omega⟩
  · unfold byteAt; rw [List.getD_eq_getElem?_getD, h3]; rfl
  · have := congrArg (List.drop 1) h1
    rw [List.drop_drop] at this
    simpa using this
theorem Suf.nil {s : ByteArray} {a : Nat} (h : Suf s a []) : a = s.size := by
  obtain ⟨h1, h2⟩ := h
  have hl := congrArg List.length h1
  rw [List.length_drop, ba_len, List.length_nil] at hl
  omega
theorem mk_toList (t : ByteArray) : (⟨t.data.toList.toArray⟩ : ByteArray) = t := by simp
end Go.PK

namespace Go.PK
open Go Go.RowKit
theorem sign_no {y : UInt8} (h : signB y ≠ true) : y ≠ 58 ∧ y ≠ 43 ∧ y ≠ 63 ∧ y ≠ 39 := by
  refine ⟨?_, ?_, ?_, ?_⟩ <;> (rintro rfl; exact h (by decide))
theorem piece_wr {s : ByteArray} {x : UInt8} (hx : x = 58 ∨ x = 43 ∨ x = 39) : ∀ (t b : List UInt8) (a : Nat) (l : List UInt8), Suf s a (escL t ++ x :: l) → ∃ a', pieceP s usualG a b = some (b ++ t, x, a') ∧ Suf s a' l
  | [], b, a, l, h => by
    obtain ⟨k1, k2, k3⟩ := Suf.cons (by simpa [escL] using h)
    refine ⟨a + 1, ?_, k3⟩
    rw [piece_eq, if_pos k1, k2, if_pos (show x = usualG.c ∨ x = usualG.e ∨ x = usualG.n from hx), List.append_nil]
  | y :: t, b, a, l, h => by
    by_cases hy : signB y = true
    · have h' : Suf s a (63 :: y :: (escL t ++ x :: l)) := by
        rw [escL_cons] at h; unfold escB at h; rw [if_pos hy] at h; simpa using h
      obtain ⟨k1, k2, k3⟩ := h'.cons
      obtain ⟨k4, k5, k6⟩ := k3.cons
      obtain ⟨a', e1, e2⟩ := piece_wr hx t (b ++ [y]) (a + 2) l k6
      refine ⟨a', ?_, e2⟩
      rw [piece_eq, if_pos k1, k2, if_neg (show ¬((63 : UInt8) = usualG.c ∨ (63 : UInt8) = usualG.e ∨ (63 : UInt8) = usualG.n) by decide), if_pos (show (63 : UInt8) = usualG.r from rfl), if_neg (by omega), k5, e1]
      simp
    · have h' : Suf s a (y :: (escL t ++ x :: l)) := by
        rw [escL_cons] at h; unfold escB at h; rw [if_neg hy] at h; simpa using h
      obtain ⟨k1, k2, k3⟩ := h'.cons
      obtain ⟨a', e1, e2⟩ := piece_wr hx t (b ++ [y]) (a + 1) l k3
      obtain ⟨n1, n2, n3, n4⟩ := sign_no hy
      refine ⟨a', ?_, e2⟩
      rw [piece_eq, if_pos k1, k2, if_neg (show ¬(y = usualG.c ∨ y = usualG.e ∨ y = usualG.n) from fun q => by rcases q with q | q | q; (· exact n1 q); (· exact n2 q); exact n4 q), if_neg (show ¬y = usualG.r from n3), e1]
      simp
theorem el_pieces {s : ByteArray} {x : UInt8} (hx : x = 43 ∨ x = 39) : ∀ (ts : List ByteArray) (t : ByteArray) (c : UInt8) (a : Nat) (out ys : List (List ByteArray)) (y : List ByteArray) (l : List UInt8), newEl usualG c out = ys ++ [y] → c ≠ 39 →
    Suf s a (escL (bl t) ++ (elT 58 ts ++ x :: l)) → ∃ a', elP s usualG c a out = elP s usualG x a' (ys ++ [y ++ t :: ts]) ∧ Suf s a' l
  | [], t, c, a, out, ys, y, l, ho, hc, h => by
    obtain ⟨a', e, h'⟩ := piece_wr (x := x) (.inr hx) (bl t) [] a l (by simpa [elT] using h)
    refine ⟨a', ?_, h'⟩
    rw [el_eq, if_neg (show ¬c = usualG.n from hc), e]
    dsimp only
    rw [List.nil_append, bl_str, ho, addLast_snoc]
  | t2 :: ts, t, c, a, out, ys, y, l, ho, hc, h => by
    obtain ⟨a1, e, h1⟩ := piece_wr (x := 58) (.inl rfl) (bl t) [] a (escL (bl t2) ++ (elT 58 ts ++ x :: l)) (by simpa [elT] using h)
    obtain ⟨a', e2, h2⟩ := el_pieces hx ts t2 58 a1 (ys ++ [y ++ [t]]) ys (y ++ [t]) l (if_neg (by decide)) (by decide) h1
    refine ⟨a', ?_, h2⟩
    rw [el_eq, if_neg (show ¬c = usualG.n from hc), e]
    dsimp only
    rw [List.nil_append, bl_str, ho, addLast_snoc, e2, List.append_assoc]
    rfl
theorem els_head (es : List (List ByteArray)) (he : ∀ e ∈ es, e ≠ []) (l : List UInt8) : ∃ x l', es.flatMap (elT 43) ++ 39 :: l = x :: l' ∧ (x = 43 ∨ x = 39) := by
  cases es with
  | nil => exact ⟨39, l, rfl, .inr rfl⟩
  | cons e es =>
    cases e with
    | nil => exact absurd rfl (he [] (by simp))
    | cons t ts => exact ⟨43, escL (bl t) ++ elT 58 ts ++ (es.flatMap (elT 43) ++ 39 :: l), by simp [elT, List.flatMap_cons], .inl rfl⟩
theorem el_all {s : ByteArray} {l : List UInt8} : ∀ (es : List (List ByteArray)), (∀ e ∈ es, e ≠ []) → ∀ (c : UInt8) (a : Nat) (out : List (List ByteArray)) (l' : List UInt8), es.flatMap (elT 43) ++ 39 :: l = c :: l' → Suf s a l' →
    ∃ a', elP s usualG c a out = some (out ++ es, a') ∧ Suf s a' l
  | [], _, c, a, out, l', h, hs => by
    have h : 39 :: l = c :: l' := h
    injection h with h1 h2
    subst h1 h2
    exact ⟨a, by rw [el_eq, if_pos (show (39 : UInt8) = usualG.n from rfl), List.append_nil], hs⟩
  | e :: es, he, c, a, out, l', h, hs => by
    cases e with
    | nil => exact absurd rfl (he [] (by simp))
    | cons t ts =>
      have h : 43 :: ((escL (bl t) ++ elT 58 ts) ++ (es.flatMap (elT 43) ++ 39 :: l)) = c :: l' := by rw [← h]; simp [elT, List.flatMap_cons]
      injection h with h1 h2
      subst h1
      have he' : ∀ e ∈ es, e ≠ [] := fun e h => he e (List.mem_cons_of_mem _ h)
      obtain ⟨x, l2, e2, hx⟩ := els_head es he' l
      rw [e2, List.append_assoc] at h2
      obtain ⟨a1, e3, h3⟩ := el_pieces hx ts t 43 a out out [] l2 (if_pos rfl) (by decide) (by rw [h2]; exact hs)
      obtain ⟨a', e4, h4⟩ := el_all es he' x a1 (out ++ [[] ++ t :: ts]) l2 e2 h3
      exact ⟨a', by rw [e3, e4, List.append_assoc]; rfl, h4⟩
theorem cap_blank {c : UInt8} (h : capB c = true) : blankB c ≠ true := by
  unfold capB at h
  simp only [decide_eq_true_eq] at h
  unfold blankB
  simp only [ne_eq, Bool.or_eq_true, decide_eq_true_eq, not_or]
  refine ⟨⟨?_, ?_⟩, ?_⟩ <;> (rintro rfl; revert h; decide)
theorem right_sg {x : Seg} (h : rightSg x = true) : x.tag.size = 3 ∧ (∀ c ∈ bl x.tag, capB c = true) ∧ ∀ e ∈ x.els, e ≠ [] := by
  unfold rightSg at h
  simp only [Bool.and_eq_true, decide_eq_true_eq, Bool.not_eq_true', List.any_eq_false] at h
  obtain ⟨⟨h1, h2⟩, h3⟩ := h
  refine ⟨h1, fun c hc => by have := h2 c hc; simpa using this, fun e he hn => ?_⟩
  have := h3 e he
  rw [hn] at this
  exact this rfl
theorem par_sg {s : ByteArray} {x : Seg} (hr : rightSg x = true) {a : Nat} {l : List UInt8} {out : List Seg} (ho : out.length < 10000) (h : Suf s a (sgT x ++ l)) : ∃ a', parP s usualG a out = parP s usualG a' (out ++ [x]) ∧ Suf s a' l := by
  obtain ⟨h1, h2, h3⟩ := right_sg hr
  obtain ⟨tg, els⟩ := x
  dsimp only at h1 h2 h3
  have hl3 : (bl tg).length = 3 := by rw [bl_len, h1]
  obtain ⟨c1, c2, c3, hbt⟩ : ∃ c1 c2 c3, bl tg = [c1, c2, c3] := by
    match hb : bl tg, hl3 with
    | [c1, c2, c3], _ => exact ⟨c1, c2, c3, rfl⟩
  have hc1 := h2 c1 (by rw [hbt]; simp)
  have hc2 := h2 c2 (by rw [hbt]; simp)
  have hc3 := h2 c3 (by rw [hbt]; simp)
  obtain ⟨x, l', hel, hx⟩ := els_head els h3 l
  have h0 : Suf s a (c1 :: c2 :: c3 :: x :: l') := by
    have e : sgT ⟨tg, els⟩ ++ l = c1 :: c2 :: c3 :: (els.flatMap (elT 43) ++ 39 :: l) := by unfold sgT; dsimp only; rw [hbt]; simp
    rw [e, hel] at h; exact h
  obtain ⟨k1, k2, h5⟩ := h0.cons
  obtain ⟨k3, k4, h6⟩ := h5.cons
  obtain ⟨k5, k6, h7⟩ := h6.cons
  obtain ⟨k7, k8, h8⟩ := h7.cons
  have hskip : skipP s a = a := skip_stop (fun hh => by rw [k2] at hh; exact cap_blank hc1 hh.2)
  have htag : tagAt s a = tg := by
    have hb3 : tagAt s a = s.extract a (a + 3) := by unfold tagAt; rw [show min (a + 3) s.size = a + 3 by omega]
    have hl : (tagAt s a).data.toList = [c1, c2, c3] := by
      rw [hb3, ByteArray.data_extract, Array.toList_extract, List.extract_eq_take_drop, h0.1]
      rw [show a + 3 - a = 3 by omega]
      rfl
    rw [← mk_toList (tagAt s a), hl, ← hbt, bl_str]
  have hall : allCap (tagAt s a) := by
    rw [htag]; intro j hj
    have : capB ((bl tg)[j]'(by rw [bl_len]; exact hj)) = true := h2 _ (List.getElem_mem _)
    rwa [bl_get] at this
  have hT : tagR s usualG a = ((tagAt s a, 0, 0), a + 3) := by
    unfold tagR
    rw [if_neg (fun hh => hh hall), htag]
    rw [if_neg (show ¬(tg.size < 3 ∨ a + tg.size = s.size) from fun hh => by rw [h1] at hh; omega)]
    rw [if_neg (show ¬(byteAt s (a + tg.size) ≠ usualG.e ∧ byteAt s (a + tg.size) ≠ usualG.n) from fun hh => by
      rw [h1, show a + 3 = a + 1 + 1 + 1 by omega, k8] at hh
      rcases hx with q | q
      · exact hh.1 q
      · exact hh.2 q)]
    rw [h1]
  obtain ⟨a', e4, h9⟩ := el_all els h3 x (a + 1 + 1 + 1 + 1) [] l' hel h8
  refine ⟨a', ?_, h9⟩
  rw [par_eq s usualG a out (by omega), hskip, if_pos k1, if_neg (by omega), hT]
  dsimp only
  rw [if_neg (show ¬(0 : Int) ≠ 0 by decide), show a + 3 = a + 1 + 1 + 1 by omega, k8, e4, htag]
  rfl
theorem par_wr {s : ByteArray} : ∀ (ls : List Seg) (a : Nat) (out : List Seg), (∀ x ∈ ls, rightSg x = true) → out.length + ls.length ≤ 10000 → Suf s a (wrT ls) → parP s usualG a out = (out ++ ls, 0, 0)
  | [], a, out, _, ho, h => by
    have ha : a = s.size := Suf.nil h
    subst ha
    rw [par_eq s usualG _ out (Nat.le_refl _), skip_stop (by omega), if_neg (by omega), List.append_nil]
  | x :: ls, a, out, hr, ho, h => by
    simp only [List.length_cons] at ho
    obtain ⟨a', e, h'⟩ := par_sg (hr x (by simp)) (l := wrT ls) (out := out) (by omega) (by have := h; unfold wrT at this; rw [List.flatMap_cons] at this; exact this)
    rw [e, par_wr ls a' (out ++ [x]) (fun y hy => hr y (List.mem_cons_of_mem _ hy)) (by simp; omega) h']
    simp
theorem par_of_wr {ls : List Seg} (hn : ls.length ≤ 10000) (hg : ∀ k (h : k < ls.length), goodW k ls[k]) : parR ⟨(wrT ls).toArray⟩ = (ls, 0, 0) := by
  have hd : (⟨(wrT ls).toArray⟩ : ByteArray).data.toList = wrT ls := by simp
  have h0 : Suf (⟨(wrT ls).toArray⟩ : ByteArray) 0 (wrT ls) := ⟨by rw [List.drop_zero, hd], Nat.zero_le _⟩
  have hr : ∀ x ∈ ls, rightSg x = true := fun x hx => by
    obtain ⟨k, hk, rfl⟩ := List.mem_iff_getElem.1 hx
    exact (hg k hk).1
  have hu : ¬unaP ⟨(wrT ls).toArray⟩ := by
    rintro ⟨hs, he⟩
    cases ls with
    | nil => have : (⟨(wrT []).toArray⟩ : ByteArray).size = 0 := rfl; omega
    | cons x t =>
      obtain ⟨h1, _⟩ := right_sg (hr x (by simp))
      refine (hg 0 (by simp)).2 ⟨rfl, ?_⟩
      have hl : (ByteArray.extract ⟨(wrT (x :: t)).toArray⟩ 0 3).data.toList = bl x.tag := by
        rw [ByteArray.data_extract, Array.toList_extract, List.extract_eq_take_drop, hd]
        unfold wrT sgT
        rw [List.flatMap_cons]
        simp only [List.drop_zero, List.append_assoc]
        rw [List.take_left' (by rw [bl_len, h1])]
      rw [he] at hl
      show x.tag = unaT
      rw [← bl_str x.tag, ← hl]
      rfl
  rw [parR_open]
  unfold openR
  rw [if_neg hu]
  dsimp only
  have := par_wr ls 0 [] hr (by simpa using hn) h0
  simpa using this
end Go.PK

namespace Go.PK
open Go Go.RowKit
structure FSt where
  al : Int
  sp : Int
  en : Int
deriving DecidableEq
def FSt.free (f : FSt) : Int := f.al - f.sp - f.en
def fundOK (f : FSt) : Prop := 0 ≤ f.sp ∧ 0 ≤ f.en ∧ f.sp + f.en ≤ f.al ∧ f.al ≤ 1000000000000000
def encP (f : FSt) (n : Int) : Int × FSt := if n < 0 then (1, f) else if n > f.free then (60, f) else (0, { f with en := f.en + n })
def relP (f : FSt) (n : Int) : Int × FSt := if n < 0 then (1, f) else if n > f.en then (60, f) else (0, { f with en := f.en - n })
def spdP (f : FSt) (n : Int) : Int × FSt := if n < 0 then (1, f) else if n > f.free then (60, f) else (0, { f with sp := f.sp + n })
theorem enc_ok {f : FSt} {n : Int} (h : fundOK f) : fundOK (encP f n).2 := by
  unfold encP FSt.free; unfold fundOK at h ⊢
  split
  · exact h
  · split
    · exact h
    · dsimp only; omega
theorem rel_ok {f : FSt} {n : Int} (h : fundOK f) : fundOK (relP f n).2 := by
  unfold relP; unfold fundOK at h ⊢
  split
  · exact h
  · split
    · exact h
    · dsimp only; omega
theorem spd_ok {f : FSt} {n : Int} (h : fundOK f) : fundOK (spdP f n).2 := by
  unfold spdP FSt.free; unfold fundOK at h ⊢
  split
  · exact h
  · split
    · exact h
    · dsimp only; omega
def nearP (tol p q : Int) : Prop := 1000 * max (p - q) (q - p) ≤ tol * q
instance (tol p q : Int) : Decidable (nearP tol p q) := by unfold nearP; infer_instance
def resP (x : Ord) : Int := (x.prom - x.paid) * x.price
def placedO (x : Ord) : Ord := { x with prom := x.copies, paid := 0, st := 0 }
def answO (x a : Ord) : Ord := { x with prom := a.copies, price := a.price }
def checkP (tol : Int) (ln : Ord) (x : Option (Ord × Int)) : Int :=
  match x with
  | none => 32
  | some (x, _) =>
    if x.st = -1 then 50
    else if ¬(x.src = ln.src ∧ x.num = ln.num) then 1
    else if ln.copies > x.st - x.paid then 50
    else if ¬nearP tol ln.price x.price then 61
    else 0
end Go.PK

namespace Go.PK
open Go Go.RowKit Go.Maps
def fnC (mF : Nat) (money : Int) : List Value := [.map (some mF), .int .i64 money]
def orC (pF : Nat) (tol : Int) (mO : Nat) : List Value := [.pointer (some ⟨pF, 0, none⟩), .int .i64 tol, .map (some mO)]
def orC10 (x : Ord) (first : Int) : List Value := x.cells ++ [Value.int .i64 first]
def orV (x : Ord) (first : Int) : Value := .agg (orC10 x first).toArray
section
variable {P : Program} {n : Nat} {l : List (Nat × Value)} {own : List (Nat × Obj)} {ro : List Snap} {ty : TypeId} {x y m : Operand} {t t' kt e : TypeId} {b : Nat} {es : Array MapEntry} {clock : Nat} {f : Value → Option Value}
theorem v_nep {p : Option Addr} {q : TypeId} (ht : P.underlying t = some (.pointer q)) (hx : ev l x = some (.pointer p)) (hy : ev l y = some (.pointer none)) : OpV P n l own ro (.binOp .neq t x y t') ty (.bool (!p.isNone)) := by
  intro A w o ha _ ho _
  have h : ∀ d : Nat, (Op.equalIn (d + 1) t (.pointer p) (.pointer none)).run P w = .ok p.isNone w := fun d => by
    cases p <;> simp [Op.equalIn, run_underlying ht]
  have h2 : (Op.equal t (.pointer p) (.pointer none)).run P w = .ok p.isNone w := h 9999
  simp [execOp, ho, ha.eval hx, ha.eval hy, eqGuard, binOp, h2]
theorem v_eqm {p : Option Nat} {q r : TypeId} (ht : P.underlying t = some (.map q r)) (hx : ev l x = some (.map p)) (hy : ev l y = some (.map none)) : OpV P n l own ro (.binOp .eql t x y t') ty (.bool p.isNone) := by
  intro A w o ha _ ho _
  have h : ∀ d : Nat, (Op.equalIn (d + 1) t (.map p) (.map none)).run P w = .ok p.isNone w := fun d => by
    cases p <;> simp [Op.equalIn, run_underlying ht]
  have h2 : (Op.equal t (.map p) (.map none)).run P w = .ok p.isNone w := h 9999
  simp [execOp, ho, ha.eval hx, ha.eval hy, eqGuard, binOp, h2]
theorem v_lookup_nil {u z : Value} {lx : Lit} (ht : P.underlying t = some (.map kt e)) (KK : Keyed P kt) (hz : (P.info? e).bind (·.zero) = some z) (hm : ev l m = some (.map none)) (hx : ev l x = some u) (hkey : keyOf P kt u = some lx) : OpV P n l own ro (.lookup t m x false) ty z := by
  intro A w o ha hw ho _
  have h1 : (Instr.findKey kt u []).run P w = .ok none w := by
    rcases (MapF.empty (P := P) (kt := kt)).find KK hkey w with ⟨h1, _⟩ | ⟨j, e, _, h2, _⟩
    · exact h1
    · simp at h2
  simp [execOp, ho, ha.eval hm, ha.eval hx, Instr.lookup, run_underlying ht, KK.check w _ hkey, run_zeroValue hz, Result.andThen, h1]
def MapAt (own : List (Nat × Obj)) (ro : List Snap) (b : Nat) (es : Array MapEntry) (clock : Nat) : Prop := ∀ w, Mem w own ro → w.heap[b]? = some (.map es clock)
theorem map_own (h : (b, Obj.map es clock) ∈ own) : MapAt own ro b es clock := fun w hw => hw.own_at _ h
theorem map_ro {ws : World} {D : Nat → Prop} (hs : (ws, D) ∈ ro) (hD : D b) (h : ws.heap[b]? = some (.map es clock)) : MapAt own ro b es clock := fun w hw => (hw.ro_at _ hs b hD (heap_lt h)).trans h
theorem v_lookupH {u v z : Value} {lx : Lit} (ht : P.underlying t = some (.map kt e)) (KK : Keyed P kt) (hz : (P.info? e).bind (·.zero) = some z) (hm : ev l m = some (.map (some b))) (hx : ev l x = some u) (hkey : keyOf P kt u = some lx)
    (hb : MapAt own ro b es clock) (hf : MapF P kt es f) (hv : (f u).getD z = v) : OpV P n l own ro (.lookup t m x false) ty v := by
  intro A w o ha hw ho _
  have hg := hb w hw
  subst hv
  rcases hf.find KK hkey w with ⟨h1, h2⟩ | ⟨j, e, h1, h2, h3, h4⟩
  · simp [execOp, ho, ha.eval hm, ha.eval hx, Instr.lookup, run_underlying ht, MapKept.run_getObj_map hg, KK.check w _ hkey, h1, run_zeroValue hz, h2, Result.andThen]
  · simp [execOp, ho, ha.eval hm, ha.eval hx, Instr.lookup, run_underlying ht, MapKept.run_getObj_map hg, KK.check w _ hkey, h1, h4, Result.andThen]
theorem v_lookup2H {u v z : Value} {lx : Lit} {c : Bool} (ht : P.underlying t = some (.map kt e)) (KK : Keyed P kt) (hz : (P.info? e).bind (·.zero) = some z) (hm : ev l m = some (.map (some b))) (hx : ev l x = some u) (hkey : keyOf P kt u = some lx)
    (hb : MapAt own ro b es clock) (hf : MapF P kt es f) (hv : (f u).getD z = v) (hc : (f u).isSome = c) : OpV P n l own ro (.lookup t m x true) ty (.tuple #[v, .bool c]) := by
  intro A w o ha hw ho _
  have hg := hb w hw
  subst hv hc
  rcases hf.find KK hkey w with ⟨h1, h2⟩ | ⟨j, e, h1, h2, h3, h4⟩
  · simp [execOp, ho, ha.eval hm, ha.eval hx, Instr.lookup, run_underlying ht, MapKept.run_getObj_map hg, KK.check w _ hkey, h1, run_zeroValue hz, h2, Result.andThen]
  · simp [execOp, ho, ha.eval hm, ha.eval hx, Instr.lookup, run_underlying ht, MapKept.run_getObj_map hg, KK.check w _ hkey, h1, h4, Result.andThen]
theorem v_len_map {tm : TypeId} (ht : P.underlying tm = some (.map kt e)) (hm : ev l m = some (.map (some b))) (hb : (b, Obj.map es clock) ∈ own) : OpV P n l own ro (.call ⟨.builtin .len, #[m], #[tm]⟩) ty (.int .i64 (es.size : Nat)) := by
  intro A w o ha hw ho _
  have hg := hw.own_at _ hb
  simp [execOp, ho, resolve, invoke, builtin, Builtin.len_, goInt, run_underlying ht, ha.eval hm, MapKept.run_getObj_map hg, Result.andThen]
theorem v_len_mapnil {tm : TypeId} (ht : P.underlying tm = some (.map kt e)) (hm : ev l m = some (.map none)) : OpV P n l own ro (.call ⟨.builtin .len, #[m], #[tm]⟩) ty (.int .i64 0) := by
  intro A w o ha hw ho _
  simp [execOp, ho, resolve, invoke, builtin, Builtin.len_, goInt, run_underlying ht, ha.eval hm, Result.andThen]
end
end Go.PK

namespace Go.PK
open Go Go.RowKit
section
variable {P : Program} {n : Nat} {l : List (Nat × Value)} {own : List (Nat × Obj)} {ro : List Snap} {lops : List Oper} {Q : Exit → Act → World → Prop} {K : Act → World → Prop}
  {rest : List (Option Bool × Nat)} {k : Option Bool} {i d : Nat} {op : Op} {ty : TypeId} {pos : String} {af : Array Edge} {x y z' : Operand} {t : TypeId}
end
end Go.PK

namespace Go.PK
open Go Go.RowKit
end Go.PK

namespace Go.PK
open Go Go.RowKit
def fewE (x : Seg) : Prop := x.els.length ≤ 100 ∧ ∀ y ∈ x.els, y.length ≤ 100
def fewS (l : List Seg) : Prop := l.length ≤ 10000 ∧ ∀ x ∈ l, fewE x
theorem order_few (o : Ord) : fewS (orderR o) := by
  unfold orderR
  by_cases h : writB o = true
  · rw [if_pos h, orderP_X (wrO_nn ((writB_iff o).1 h))]
    unfold orderX fewS fewE
    simp only [List.forall_mem_cons, List.not_mem_nil, false_imp_iff, implies_true, and_true, List.length_cons, List.length_nil]
    decide
  · rw [if_neg h]; exact ⟨Nat.zero_le _, fun x hx => by cases hx⟩
theorem linesX_few : ∀ (ls : List Ord) (j : Nat), ∀ x ∈ linesX j ls, fewE x
  | [], _ => fun x hx => by cases hx
  | o :: t, j => fun x hx => by
    have hx : x ∈ inv4 j o ++ linesX (j + 1) t := hx
    rcases List.mem_append.1 hx with h1 | h1
    · have hh : ∀ x ∈ inv4 j o, fewE x := by
        unfold inv4 fewE
        simp only [List.forall_mem_cons, List.not_mem_nil, false_imp_iff, implies_true, and_true, List.length_cons, List.length_nil]
        decide
      exact hh x h1
    · exact linesX_few t (j + 1) x h1
theorem inv_few (ls : List Ord) : fewS (invR ls) := by
  unfold invR
  by_cases h : payP ls
  · rw [if_pos h]
    obtain ⟨h1, h2, h3⟩ := id h
    refine ⟨by rw [withX_len]; omega, fun x hx => ?_⟩
    unfold withX at hx
    rcases List.mem_append.1 hx with hx | hx
    · rcases List.mem_append.1 hx with hx | hx
      · have hh : ∀ x ∈ headX, fewE x := by
          unfold headX fewE
          simp only [List.forall_mem_cons, List.not_mem_nil, false_imp_iff, implies_true, and_true, List.length_cons, List.length_nil]
          decide
        exact hh x hx
      · exact linesX_few ls 0 x hx
    · have hh : ∀ x ∈ tailX ls.length (itoaS (totalP ls)), fewE x := by
        unfold tailX fewE
        simp only [List.forall_mem_cons, List.not_mem_nil, false_imp_iff, implies_true, and_true, List.length_cons, List.length_nil]
        decide
      exact hh x hx
  · rw [if_neg h]; exact ⟨Nat.zero_le _, fun x hx => by cases hx⟩
theorem nil_rd {α : Type} (T : Ty α) (D : Nat → Prop) (w : World) : sliceRd T D w (.slice none 0 0) [] := ⟨none, 0, rfl, Nat.le_refl _, Nat.zero_le _, fun h => absurd h (Nat.not_lt_zero _)⟩
theorem Mem.join2 {w1 w2 : World} {own1 own2 : List (Nat × Obj)} {ro : List Snap} (h1 : Mem w1 own1 ro) (h2 : Mem w2 own2 [(w1, fun _ => True)]) : Mem w2 (own2 ++ own1) ro where
  own_at := fun p hp => by
    rcases List.mem_append.1 hp with hp | hp
    · exact h2.own_at p hp
    · exact (h2.ro_at _ (.head _) p.1 trivial (h1.lt hp)).trans (h1.own_at p hp)
  own_nd := by
    rw [List.map_append, List.nodup_append]
    refine ⟨h2.own_nd, h1.own_nd, fun a ha b hb e => ?_⟩
    obtain ⟨p, hp, rfl⟩ := List.mem_map.1 ha
    obtain ⟨q, hq, rfl⟩ := List.mem_map.1 hb
    have a1 := h2.apart p hp _ (.head _) trivial
    have a2 := h1.lt hq
    simp only at a1; omega
  ro_st := (h1.join h2).ro_st
  ro_at := (h1.join h2).ro_at
  apart := fun p hp s hs hd => by
    rcases List.mem_append.1 hp with hp | hp
    · exact (h1.join h2).apart p hp s hs hd
    · exact h1.apart p hp s hs hd
end Go.PK

namespace Go.PK
open Go Go.RowKit
theorem escL_le : ∀ l : List UInt8, (escL l).length ≤ 2 * l.length
  | [] => Nat.le_refl _
  | c :: l => by
    rw [escL_cons, List.length_append, List.length_cons]
    have := escL_le l
    unfold escB
    split <;> simp only [List.length_cons, List.length_nil] <;> omega
theorem elT_le (M : Nat) : ∀ (c : UInt8) (e : List ByteArray), (∀ s ∈ e, s.size ≤ M) → (elT c e).length ≤ e.length * (1 + 2 * M)
  | _, [], _ => Nat.zero_le _
  | c, t :: ts, h => by
    have h1 := elT_le M 58 ts fun s hs => h s (List.mem_cons_of_mem _ hs)
    have h2 := escL_le (bl t)
    have h3 := h t (by simp)
    rw [bl_len] at h2
    show (c :: (escL (bl t) ++ elT 58 ts)).length ≤ _
    rw [List.length_cons, List.length_append, List.length_cons, Nat.add_mul]; omega
def fineS (x : Seg) : Prop := rightSg x = true ∧ x.tag ≠ unaT ∧ fewE x ∧ ∀ y ∈ x.els, ∀ s ∈ y, s.size ≤ 100
theorem els_le : ∀ (es : List (List ByteArray)), (∀ y ∈ es, y.length ≤ 100 ∧ ∀ s ∈ y, s.size ≤ 100) → (es.flatMap (elT 43)).length ≤ es.length * 20100
  | [], _ => Nat.zero_le _
  | e :: es, h => by
    have h1 := els_le es fun y hy => h y (List.mem_cons_of_mem _ hy)
    obtain ⟨h2, h3⟩ := h e (by simp)
    have h4 := elT_le 100 43 e h3
    have h5 : e.length * 201 ≤ 100 * 201 := Nat.mul_le_mul_right _ h2
    rw [List.flatMap_cons, List.length_append, List.length_cons, Nat.add_mul]; omega
theorem wrT_le : ∀ (l : List Seg), (∀ x ∈ l, fineS x) → (wrT l).length ≤ l.length * 2010004
  | [], _ => Nat.zero_le _
  | x :: l, h => by
    have h1 := wrT_le l fun y hy => h y (List.mem_cons_of_mem _ hy)
    obtain ⟨h2, _, ⟨h3, h4⟩, h5⟩ := h x (by simp)
    obtain ⟨h6, _⟩ := right_sg h2
    have h7 := els_le x.els fun y hy => ⟨h4 y hy, h5 y hy⟩
    have h8 : x.els.length * 20100 ≤ 100 * 20100 := Nat.mul_le_mul_right _ h3
    unfold wrT at h1 ⊢
    rw [List.flatMap_cons, List.length_append]
    unfold sgT at h1 ⊢
    rw [List.length_append, List.length_append, bl_len, h6]
    simp only [List.length_cons, List.length_nil]
    rw [Nat.add_mul]; omega
theorem fine_good {l : List Seg} (h : ∀ x ∈ l, fineS x) : ∀ k (hk : k < l.length), goodW k l[k] := fun k hk => by
  obtain ⟨h1, h2, _⟩ := h l[k] (List.getElem_mem hk)
  exact ⟨h1, fun q => h2 q.2⟩
theorem fine_text {l : List Seg} (hn : l.length ≤ 60) (h : ∀ x ∈ l, fineS x) : wrR l = (⟨(wrT l).toArray⟩, 0) ∧ (⟨(wrT l).toArray⟩ : ByteArray).size ≤ 200000000 ∧ parR ⟨(wrT l).toArray⟩ = (l, 0, 0) := by
  refine ⟨wrR_ok (by omega) (fine_good h), ?_, par_of_wr (by omega) (fine_good h)⟩
  have := wrT_le l h
  show (List.toArray _).size ≤ _
  rw [List.size_toArray]; omega
theorem order_fine {o : Ord} (hw : writB o = true) : ∀ x ∈ orderR o, fineS x := by
  have hr := (writB_iff o).1 hw
  intro x hx
  have hf := (order_few o).2 x hx
  revert x
  unfold orderR
  rw [if_pos hw, orderP_X (wrO_nn hr)]
  obtain ⟨⟨a1, a2⟩, ⟨b1, b2⟩, ⟨c1, c2⟩, ⟨d1, d2⟩, ⟨e1, e2⟩, ⟨f1, f2⟩⟩ := hr
  have k1 := itoa9 (show 0 ≤ o.id by omega) a2
  have k2 := itoa9 (show 0 ≤ o.fund by omega) b2
  have k3 := itoa9 (show 0 ≤ o.copies by omega) (show o.copies ≤ 999999999 by omega)
  have k4 := itoa9 e1 e2
  have k5 := recT9 c1 c2 d1 d2
  have k6 := itoa9 (show (0 : Int) ≤ 1 by omega) (by omega)
  have hs : ∀ x ∈ orderX o, ∀ y ∈ x.els, ∀ s ∈ y, s.size ≤ 100 := by
    unfold orderX
    simp only [List.forall_mem_cons, List.not_mem_nil, false_imp_iff, implies_true, and_true]
    repeat' apply And.intro
    all_goals first | decide | omega
  have ht : ∀ x ∈ orderX o, rightSg x = true ∧ x.tag ≠ unaT := by
    unfold orderX
    simp only [List.forall_mem_cons, List.not_mem_nil, false_imp_iff, implies_true, and_true]
    repeat' apply And.intro
    all_goals first | rfl | decide
  exact fun x hx hf => ⟨(ht x hx).1, (ht x hx).2, hf, hs x hx⟩
theorem bill_fine {o : Ord} (hw : wrO (pf o)) : payP [o] ∧ ∀ x ∈ invR [o], fineS x := by
  have hp : payP [o] := ⟨Nat.le_refl 1, (by decide : (1 : Nat) ≤ 999), fun p hp => by rw [List.mem_singleton.1 hp]; exact hw⟩
  refine ⟨hp, ?_⟩
  intro x hx
  have hf := (inv_few [o]).2 x hx
  revert x
  have ht0 := total_le (ls := [o]) fun p hp => by rw [List.mem_singleton.1 hp]; exact hw
  have k7 := itoa_sz (n := totalP [o]) ht0.1 15
  unfold invR
  rw [if_pos hp]
  unfold withX
  obtain ⟨⟨a1, a2⟩, ⟨b1, b2⟩, ⟨c1, c2⟩, ⟨d1, d2⟩, ⟨e1, e2⟩, ⟨f1, f2⟩⟩ := hw
  have a1 : 1 ≤ o.id := a1; have a2 : o.id ≤ 999999999 := a2; have c1 : 0 ≤ o.src := c1; have c2 : o.src ≤ 999999999 := c2; have d1 : 0 ≤ o.num := d1; have d2 : o.num ≤ 999999999 := d2
  have e1 : 0 ≤ o.price := e1; have e2 : o.price ≤ 999999999 := e2; have f1 : 1 ≤ o.copies := f1; have f2 : o.copies ≤ 9999 := f2
  have k1 := itoa9 (show 0 ≤ o.id by omega) a2
  have k3 := itoa9 (show 0 ≤ o.copies by omega) (show o.copies ≤ 999999999 by omega)
  have k4 := itoa9 e1 e2
  have k5 := recT9 c1 c2 d1 d2
  have k6 : (itoaS ((0 + 1 : Nat) : Int)).size ≤ 9 := itoa9 (by decide) (by decide)
  have k8 : (itoaS ((4 * [o].length + 5 : Nat) : Int)).size ≤ 9 := itoa9 (n := 9) (by decide) (by decide)
  have k9 : (itoaS (totalP [o])).size ≤ 100 := by
    have h10 : (10 : Int) ^ (15 + 1) = 10000000000000000 := by decide
    have : totalP [o] < 10 ^ (15 + 1) := by rw [h10]; have := ht0.2; simp only [List.length_singleton] at this; omega
    have := k7.2 this
    omega
  have hs : ∀ x ∈ (headX ++ linesX 0 [o]) ++ tailX [o].length (itoaS (totalP [o])), ∀ y ∈ x.els, ∀ s ∈ y, s.size ≤ 100 := by
    show ∀ x ∈ (headX ++ (inv4 0 o ++ [])) ++ tailX [o].length (itoaS (totalP [o])), _
    unfold headX inv4 tailX
    simp only [List.forall_mem_cons, List.not_mem_nil, false_imp_iff, implies_true, and_true, List.cons_append, List.nil_append, List.append_nil]
    repeat' apply And.intro
    all_goals first | decide | omega
  have ht : ∀ x ∈ (headX ++ linesX 0 [o]) ++ tailX [o].length (itoaS (totalP [o])), rightSg x = true ∧ x.tag ≠ unaT := by
    show ∀ x ∈ (headX ++ (inv4 0 o ++ [])) ++ tailX [o].length (itoaS (totalP [o])), _
    unfold headX inv4 tailX
    simp only [List.forall_mem_cons, List.not_mem_nil, false_imp_iff, implies_true, and_true, List.cons_append, List.nil_append, List.append_nil]
    repeat' apply And.intro
    all_goals first | rfl | decide
  exact fun x hx hf => ⟨(ht x hx).1, (ht x hx).2, hf, hs x hx⟩
end Go.PK

namespace Go.PK
open Go Go.RowKit
section
variable {P : Program} {n : Nat} {l : List (Nat × Value)} {own : List (Nat × Obj)} {ro : List Snap} {lops : List Oper} {Q : Exit → Act → World → Prop} {K : Act → World → Prop}
  {rest : List (Option Bool × Nat)} {k : Option Bool} {i d j dj : Nat} {want : Bool} {op : Op} {ty : TypeId} {pos : String} {af : Array Edge}
theorem x_valg (ho : lops[i]? = some ⟨some d, op, ty, pos, af, some (j, want)⟩) (hj : (lops[j]?).bind (·.dst) = some dj) (hb : l.lookup dj = some (.bool want)) (hk : k.getD true = true) (hd : decide (d < n) = true) {v : Value} (hv : OpV P n l own ro op ty v)
    (h : WX P lops.toArray Q K rest n ((d, v) :: l) own ro) : WX P lops.toArray Q K ((k, i) :: rest) n l own ro := x_run ho (go_some rfl hj hb) rfl hk hd hv h
theorem x_boolg (ho : lops[i]? = some ⟨some d, op, ty, pos, af, some (j, want)⟩) (hj : (lops[j]?).bind (·.dst) = some dj) (hb : l.lookup dj = some (.bool want)) (hk : k.getD true = true) (hd : decide (d < n) = true) {b : Bool} (hv : OpV P n l own ro op ty (.bool b))
    (h : ∀ c, c = b → WX P lops.toArray Q K rest n ((d, .bool c) :: l) own ro) : WX P lops.toArray Q K ((k, i) :: rest) n l own ro := x_run ho (go_some rfl hj hb) rfl hk hd hv (h b rfl)
theorem x_callvg {f : FuncId} {fn : Func} {xs : Array Operand} {tys : Array TypeId} {vs : List Value} (ho : lops[i]? = some ⟨some d, .call ⟨.value (.func f), xs, tys⟩, ty, pos, af, some (j, want)⟩) (hj : (lops[j]?).bind (·.dst) = some dj) (hb : l.lookup dj = some (.bool want)) (hk : k.getD true = true) (hd : decide (d < n) = true)
    (hf : P.funcs[f]? = some fn) (hbody : (!(fn.name == "runtime.NumGoroutine") && fn.body.isSome) = true) (hx : evs l xs.toList = some vs) {v : Value}
    (hc : ∀ w, Mem w own ro → Calls P f vs.toArray w fun e w' => e = .returned v ∧ Later w w')
    (h : WX P lops.toArray Q K rest n ((d, v) :: l) own ro) : WX P lops.toArray Q K ((k, i) :: rest) n l own ro :=
  x_callv_core (fst := #[]) (cap := #[]) ho (go_some rfl hj hb) rfl rfl hk hd rfl hf hbody hx (by simpa using hc) h
theorem x_callbg {f : FuncId} {fn : Func} {xs : Array Operand} {tys : Array TypeId} {vs : List Value} (ho : lops[i]? = some ⟨some d, .call ⟨.value (.func f), xs, tys⟩, ty, pos, af, some (j, want)⟩) (hj : (lops[j]?).bind (·.dst) = some dj) (hb : l.lookup dj = some (.bool want)) (hk : k.getD true = true) (hd : decide (d < n) = true)
    (hf : P.funcs[f]? = some fn) (hbody : (!(fn.name == "runtime.NumGoroutine") && fn.body.isSome) = true) (hx : evs l xs.toList = some vs) {b : Bool}
    (hc : ∀ w, Mem w own ro → Calls P f vs.toArray w fun e w' => e = .returned (.bool b) ∧ Later w w')
    (h : ∀ c, c = b → WX P lops.toArray Q K rest n ((d, .bool c) :: l) own ro) : WX P lops.toArray Q K ((k, i) :: rest) n l own ro := x_callvg ho hj hb hk hd hf hbody hx hc (h b rfl)
theorem x_turng {τ : Type} {f : FuncId} {fn : Func} {xs : Array Operand} {tys : Array TypeId} {vs : List Value} {v : Value} (R : τ → Prop) (O : τ → List (Nat × Obj)) (ho : lops[i]? = some ⟨some d, .call ⟨.value (.func f), xs, tys⟩, ty, pos, af, some (j, want)⟩) (hj : (lops[j]?).bind (·.dst) = some dj) (hb : l.lookup dj = some (.bool want)) (hd : decide (d < n) = true)
    (hf : P.funcs[f]? = some fn) (hbody : (!(fn.name == "runtime.NumGoroutine") && fn.body.isSome) = true) (hx : evs l xs.toList = some vs)
    (hc : ∀ w, Mem w own ro → Calls P f vs.toArray w fun e w' => e = .returned v ∧ ∃ x, R x ∧ Mem w' (O x) ro)
    (h : ∀ x, R x → WX P lops.toArray Q K rest n ((d, v) :: l) (O x) ro) : WX P lops.toArray Q K ((none, i) :: rest) n l own ro := by
  intro a w ha hw
  have hd' : d < n := of_decide_eq_true hd
  have hw1 := go_some (lops := lops) (n := n) (l := l) (o := ⟨some d, .call ⟨.value (.func f), xs, tys⟩, ty, pos, af, some (j, want)⟩) rfl hj hb a ha
  simp only [wpX, List.getElem?_toArray, ho]
  intro w' hl
  rw [if_pos hw1]
  unfold Oper.wp
  have hc' : ∀ w, Mem w own ro → Calls P f ((#[] : Array Value) ++ vs.toArray ++ #[]) w fun e w' => e = .returned v ∧ ∃ x, R x ∧ Mem w' (O x) ro := by simpa using hc
  rw [run_callv (fst := #[]) (cap := #[]) rfl ha rfl hf hbody hx]
  refine Calls.mono (hc' w' (hw.later hl)) fun e w2 he => ?_
  obtain ⟨rfl, x, hr, hm⟩ := he
  exact h x hr _ w2 (ha.put v hd') hm
end
end Go.PK

namespace Go.PK
open Go Go.RowKit
theorem rowsIn_of {n : Nat} {P : Program} {row : String} {args : Array Value} {w : World} {R : Value → World → Prop} (h : Rows P row args w R) : RowsIn Fence.wide n P row args w R :=
  fun c cs _ => let ⟨v, w', r, s⟩ := h c cs; ⟨v, w', r, stepsIn_wide.2 s⟩
theorem oper_in {lr n : Nat} {P : Program} {o : Oper} {a : Act} {w : World} {K : Act → World → Prop} {Q : Exit → Act → World → Prop} (hd : ∀ c, o.op ≠ .defer c) (h : o.wp P a w K Q) : o.wpIn (Fence.wide.inRound lr) n P a w K Q := by
  refine ⟨fun _ _ => trivial, ?_⟩
  rw [Oper.semAt_eq _ _ _ hd]
  unfold Oper.wp at h
  cases hr : (execOp a.eval o).run P w with
  | ok x w' =>
    rw [hr] at h
    cases x with
    | value v => exact h
    | skip => exact h
    | defer d => exact h
    | enter f args => exact ⟨fun h => by simp [Fence.wide] at h, callsIn_wide.2 h⟩
    | row row args => exact ⟨fun h => by simp [Fence.wide] at h, rowsIn_of h⟩
    | _ => exact h.elim
  | halt x w' =>
    rw [hr] at h
    cases x <;> first | exact h | exact h.elim
section
variable {P : Program}
end
section
variable {P : Program} {oF : List (Nat × Obj)} {rF : List Snap}
end
theorem FH.none {n : Nat} {a : Act} (h1 : a.tmps.size = n) (h2 : a.defers = []) : FH n [] a := ⟨h1, h2, fun s v h => by simp at h⟩
theorem FH.add {n d : Nat} {l : List (Nat × Value)} {a : Act} {v : Value} (h : FH n l a) (hv : a.tmps[d]? = some v) : FH n ((d, v) :: l) a := ⟨h.sz, h.df, fun s u hu => by
  simp only [List.lookup_cons] at hu
  by_cases hs : s = d
  · subst hs; simp at hu; subst hu; exact hv
  · have : (s == d) = false := by simpa using hs
    simp only [this] at hu
    exact h.at_ s u hu⟩
theorem Mem.three {W : World} {b1 b2 b3 : Nat} {o1 o2 o3 : Obj} (h1 : W.heap[b1]? = some o1) (h2 : W.heap[b2]? = some o2) (h3 : W.heap[b3]? = some o3) (n1 : b1 ≠ b2) (n2 : b1 ≠ b3) (n3 : b2 ≠ b3) :
    Mem W [(b1, o1), (b2, o2), (b3, o3)] [(W, notOwn [(b1, o1), (b2, o2), (b3, o3)])] := by
  have h : Mem W [(b1, o1), (b2, o2), (b3, o3)] [] :=
    ⟨(fun p hp => by simp at hp; rcases hp with rfl | rfl | rfl <;> assumption), (by simp; exact ⟨⟨n1, n2⟩, n3⟩), (fun s hs => by cases hs), (fun s hs => by cases hs), (fun p hp s hs => by cases hs)⟩
  exact h.snap
end Go.PK

namespace Go.PK
open Go Go.RowKit
section
variable {P : Program} {m : Nat}
theorem oper_wide {n : Nat} {o : Oper} {a : Act} {w : World} {K : Act → World → Prop} {Q : Exit → Act → World → Prop} (hd : ∀ c, o.op ≠ .defer c) (h : o.wp P a w K Q) : o.wpIn Fence.wide n P a w K Q := by
  refine ⟨fun _ _ => trivial, ?_⟩
  rw [Oper.semAt_eq _ _ _ hd]
  unfold Oper.wp at h
  cases hr : (execOp a.eval o).run P w with
  | ok x w' =>
    rw [hr] at h
    cases x with
    | value v => exact h
    | skip => exact h
    | defer d => exact h
    | enter f args => exact ⟨fun h => by simp [Fence.wide] at h, callsIn_wide.2 h⟩
    | row row args => exact ⟨fun h => by simp [Fence.wide] at h, fun c cs _ => let ⟨v, w', r, s⟩ := h c cs; ⟨v, w', r, stepsIn_wide.2 s⟩⟩
    | _ => exact h.elim
  | halt x w' =>
    rw [hr] at h
    cases x <;> first | exact h | exact h.elim
structure Lets (F : Fence) (m : Nat) (P : Program) : Prop where
  fn : ∀ f, F.fn f
  op : ∀ {o : Oper} {a : Act} {w : World} {K : Act → World → Prop} {Q : Exit → Act → World → Prop}, (∀ c, o.op ≠ .defer c) → o.wp P a w K Q → o.wpIn F m P a w K Q
theorem lets_wide : Lets Fence.wide m P := ⟨fun _ => trivial, fun hd h => oper_wide hd h⟩
theorem lets_round (lr : Nat) : Lets (Fence.wide.inRound lr) m P := ⟨fun _ => trivial, fun hd h => oper_in hd h⟩
theorem no_defer {lops : List Oper} (hd : lops.all (fun o => match o.op with | .defer _ => false | _ => true) = true) {o : Oper} (ho : o ∈ lops) : ∀ c, o.op ≠ .defer c := fun c e => by
  have := List.all_eq_true.1 hd o ho
  rw [e] at this; cases this
theorem listIn_of_X {F : Fence} (hF : Lets F m P) {lops : List Oper} {Q : Exit → Act → World → Prop} {K : Act → World → Prop} (hd : lops.all (fun o => match o.op with | .defer _ => false | _ => true) = true) {j : Nat} (hj : j ≤ lops.length)
    (hK : ∀ a w, K a w → wpListIn F m P lops.toArray Q (lops.drop j) a w) : ∀ (k s : Nat) (a : Act) (w : World), s + k = j → wpX P lops.toArray Q K ((List.range' s k).map fun i => (none, i)) a w → wpListIn F m P lops.toArray Q (lops.drop s) a w
  | 0, s, a, w, hs, h => by
    obtain rfl : s = j := by omega
    exact hK a w (h w (Later.refl _))
  | k + 1, s, a, w, hs, h => by
    have hlt : s < lops.length := by omega
    rw [List.drop_eq_getElem_cons hlt]
    rw [List.range'_succ, List.map_cons] at h
    simp only [wpX, List.getElem?_toArray, List.getElem?_eq_getElem hlt] at h
    have h3 := h w (Later.refl _)
    refine wpListIn_step fun K' hK' => ?_
    split <;> rename_i hw
    · rw [if_pos hw] at h3
      exact hF.op (no_defer hd (List.getElem_mem hlt)) (Oper.wp_mono (fun a' w' hk' => hK' _ _ (listIn_of_X hF hd hj hK k (s + 1) a' w' (by omega) hk')) h3)
    · rw [if_neg hw] at h3
      exact ⟨fun f _ => hF.fn f, hK' _ _ (listIn_of_X hF hd hj hK k (s + 1) _ w (by omega) h3)⟩
end
section
variable {P : Program} {m n : Nat} {l : List (Nat × Value)} {own : List (Nat × Obj)} {ro : List Snap} {F : Fence} {Q : Exit → Act → World → Prop}
def WI (F : Fence) (m : Nat) (P : Program) (c : Code) (Q : Exit → Act → World → Prop) (n : Nat) (l : List (Nat × Value)) (own : List (Nat × Obj)) (ro : List Snap) : Prop :=
  ∀ a w, FH n l a → Mem w own ro → c.wpIn F m P Q a w
theorem wi_seq {x y : Code} (h : WI F m P x (Exit.then (y.wpIn F m P Q) Q) n l own ro) : WI F m P (.seq x y) Q n l own ro := fun a w ha hw => wpIn_seq (h a w ha hw)
theorem wi_block {id : Nat} {c : Code} (h : WI F m P c (Exit.inBlock id Q) n l own ro) : WI F m P (.block id c) Q n l own ro := fun a w ha hw => wpIn_block (h a w ha hw)
theorem wi_skip (h : S (Q .normal) n l own ro) : WI F m P .skip Q n l own ro := fun a w ha hw => wpIn_skip (h a w ha hw)
theorem wi_cond {c : Operand} {x y : Code} {t : Bool} (hc : ev l c = some (.bool t)) (ht : t = true → WI F m P x Q n l own ro) (hf : t = false → WI F m P y Q n l own ro) : WI F m P (.cond c x y) Q n l own ro :=
  fun a w ha hw => wpIn_cond_split (ha.eval hc) (fun h => ht h a w ha hw) (fun h => hf h a w ha hw)
theorem ti_norm {y : Code} (h : WI F m P y Q n l own ro) : S (Exit.then (y.wpIn F m P Q) Q .normal) n l own ro := h
theorem t_k {K : Act → World → Prop} (h : S K n l own ro) : S (Exit.then K Q .normal) n l own ro := h
theorem ri_text (hF : Lets F m P) {id : Nat} {lops : List Oper} (hd : lops.all (fun o => match o.op with | .defer _ => false | _ => true) = true)
    (h : WX P lops.toArray Q (fun a w => Q .normal a w) (tailFrom 0 lops.length) n l own ro) : WI F m P (.region id lops.toArray false) Q n l own ro := fun a w ha hw =>
  wpIn_region_lit (by
    have := listIn_of_X hF (K := fun a w => Q .normal a w) hd (Nat.le_refl _) (fun a w hk => by rw [List.drop_length]; exact hk) lops.length 0 a w (by omega) (h a w ha hw)
    rwa [List.drop_zero] at this)
theorem rg_yield {id : Nat} {lops : List Oper} (j m : Nat) (hd : lops.all (fun o => match o.op with | .defer _ => false | _ => true) = true) (hj : decide (j ≤ lops.length) = true)
    (h : WX P lops.toArray Q (fun a w => wpListIn Fence.wide m P lops.toArray Q (lops.drop j) a w) (tailFrom 0 j) n l own ro) : W P (.region id lops.toArray false) Q n l own ro := fun a w ha hw =>
  (wpIn_wide (n := m)).1 (wpIn_region_lit (by
    have := listIn_of_X (lets_wide (m := m) (P := P)) hd (of_decide_eq_true hj) (fun a w hk => hk) j 0 a w (by omega) (h a w ha hw)
    rwa [List.drop_zero] at this))
theorem s_yield {lops : List Oper} {j d t L : Nat} {xs : Array Operand} {tys : Array TypeId} {ty : TypeId} {pos : String} {af : Array Edge} {vs : List Value} {v : Value} {τ : Type} (I : τ → Prop) (O : τ → List (Nat × Obj))
    (ho : lops[j]? = some ⟨some d, .call ⟨.value (.tmp t), xs, tys⟩, ty, pos, af, none⟩) (hd : decide (d < n) = true) (hf : l.lookup t = some (.func (.yield L) #[] #[])) (hx : evs l xs.toList = some vs) (hm : decide (1 ≤ m) = true)
    (hY : ∀ w, Mem w own ro → YieldAt Fence.wide (m - 1) P L vs.toArray w fun e w' => e = .returned v ∧ ∃ x, I x ∧ Mem w' (O x) ro)
    (h : ∀ x, I x → S (fun a w => wpListIn Fence.wide m P lops.toArray Q (lops.drop (j + 1)) a w) n ((d, v) :: l) (O x) ro) : S (fun a w => wpListIn Fence.wide m P lops.toArray Q (lops.drop j) a w) n l own ro := by
  intro a w ha hw
  have hlt : j < lops.length := (List.getElem?_eq_some_iff.1 ho).1
  have he : lops[j] = ⟨some d, .call ⟨.value (.tmp t), xs, tys⟩, ty, pos, af, none⟩ := by
    rw [List.getElem?_eq_getElem hlt] at ho; exact Option.some.inj ho
  obtain ⟨fn, tmps, assign, body, hy, hR⟩ := hY w hw
  show wpListIn Fence.wide m P lops.toArray Q (lops.drop j) a w
  rw [List.drop_eq_getElem_cons hlt, he]
  refine wpListIn_plain rfl fun K hK => ?_
  refine ⟨fun _ _ => trivial, ?_⟩
  rw [Oper.semAt_eq _ _ _ (fun c e => by cases e)]
  have hev := ha.evals hx
  have hrun : (execOp a.eval ⟨some d, .call ⟨.value (.tmp t), xs, tys⟩, ty, pos, af, none⟩).run P w = .ok (.round L fn tmps assign body) w := by
    have h1 : (xs.map a.eval) = vs.toArray := by
      apply Array.ext'
      rw [Array.toList_map, hev]
    have hft : a.tmps[t]?.getD undef = .func (.yield L) #[] #[] := by rw [ha.at_ t _ hf]; rfl
    simp [execOp, resolve, hft, h1, go_sem, invoke, hy]
  rw [hrun]
  refine ⟨fun _ => of_decide_eq_true hm, ?_⟩
  refine hR.mono ?_
  rintro e w' ⟨rfl, x, hI, hm'⟩
  exact hK _ _ (h x hI _ w' (ha.put v (of_decide_eq_true hd)) hm')
theorem s_rest {lops : List Oper} {j : Nat} (hd : lops.all (fun o => match o.op with | .defer _ => false | _ => true) = true) (hj : decide (j ≤ lops.length) = true)
    (h : WX P lops.toArray Q (fun a w => Q .normal a w) (tailFrom j lops.length) n l own ro) : S (fun a w => wpListIn Fence.wide m P lops.toArray Q (lops.drop j) a w) n l own ro := fun a w ha hw =>
  listIn_of_X lets_wide (K := fun a w => Q .normal a w) hd (Nat.le_refl _) (fun a w hk => by rw [List.drop_length]; exact hk) (lops.length - j) j a w (by have := of_decide_eq_true hj; omega) (h a w ha hw)
end
def recL (st : LoopState) (fn : FuncId) (tmps : Array Value) (ps : Array Tmp) (assign body : Code) (D : Nat) : Loop := { state := st, pending := none, fn, tmps, params := ps, assign, body, defers := D }
theorem turned_put {w : World} {g : Nat} {o o' : Obj} (h : w.heap[g]? = some o) : Turned w (w.putObj g o') g o' := turned_obj h
section
variable {P : Program} {m n : Nat} {l : List (Nat × Value)} {own rest : List (Nat × Obj)} {ro : List Snap} {Q : Exit → Act → World → Prop} {R : Ending → World → Prop} {L : Nat} {fn : FuncId} {tmps : Array Value} {assign body : Code} {D : Nat}
theorem yield_two {w : World} {d1 d2 : Nat} {v1 v2 : Value} (hm : Mem w ((L, .loop (recL .ready fn tmps #[d1, d2] assign body D)) :: rest) ro) (hfh : FH n l ⟨tmps, []⟩) (h1 : decide (d1 < n) = true) (h2 : decide (d2 < n) = true)
    (h : WI (Fence.wide.inRound L) m P assign (Exit.then (fun a w => ∃ w2, (Instr.beginRound L).run P w = .ok () w2 ∧ body.wpIn (Fence.wide.inRound L) m P (roundPost P L R) a w2) (fun _ _ _ => False)) n ((d2, v2) :: (d1, v1) :: l) ((L, .loop (recL .ready fn tmps #[d1, d2] assign body D)) :: rest) ro) :
    YieldAt Fence.wide m P L #[v1, v2] w R := by
  have hl := hm.own_at _ (.head _)
  have hy := run_yield (P := P) (args := #[v1, v2]) hl rfl
  refine ⟨fn, _, assign, body, hy, roundIn_of_wpIn trivial (h _ w ?_ hm)⟩
  have := (hfh.put v1 (of_decide_eq_true h1)).put v2 (of_decide_eq_true h2)
  have e : (#[d1, d2] : Array Tmp).zip #[v1, v2] = #[(d1, v1), (d2, v2)] := by
    apply Array.ext'
    simp
  show FH n ((d2, v2) :: (d1, v1) :: l) { tmps := ((#[d1, d2] : Array Tmp).zip #[v1, v2]).foldl (fun t (q : Tmp × Value) => t.setIfInBounds q.1 q.2) tmps, defers := [] }
  rw [e]
  exact this
theorem s_begin {st : LoopState} {ps : Array Tmp} (hst : st = .ready) (h : WI (Fence.wide.inRound L) m P body (roundPost P L R) n l ((L, .loop (recL .busy fn tmps ps assign body D)) :: rest) ro) :
    S (fun a w => ∃ w2, (Instr.beginRound L).run P w = .ok () w2 ∧ body.wpIn (Fence.wide.inRound L) m P (roundPost P L R) a w2) n l ((L, .loop (recL st fn tmps ps assign body D)) :: rest) ro := by
  subst hst
  intro a w ha hw
  have hl := hw.own_at _ (.head _)
  exact ⟨_, run_beginRound hl rfl, h a _ ha (Mem.turn (l1 := []) hw (turned_put hl))⟩
theorem s_round {ps : Array Tmp} (h : ∀ w', Mem w' ((L, .loop (recL .ready fn tmps ps assign body D)) :: rest) ro → R (.returned (.bool true)) w') :
    S (roundPost P L R .normal) n l ((L, .loop (recL .busy fn tmps ps assign body D)) :: rest) ro := by
  intro a w ha hw
  have hl := hw.own_at _ (.head _)
  exact ⟨_, _, run_endRound none hl, h _ (Mem.turn (l1 := []) hw (turned_put hl))⟩
def SD (D : Nat) (K : Act → World → Prop) (n : Nat) (l : List (Nat × Value)) (own : List (Nat × Obj)) (ro : List Snap) : Prop :=
  ∀ a w, FH n l a → Mem w own ro → K { a with defers := [{ target := .collected D, args := #[] }] } w
theorem w_range {g : Operand} {ps : Array Tmp} {gf : Nat} {lb : Array Value} {τ : Type} (I : τ → Prop) (O : τ → List (Nat × Obj)) (hg : ev l g = some (.func (.func gf) #[] lb)) (eg : ∀ args w, (callFunc gf args).run P w = .ok (.enter gf args) w)
    (hc : ∀ (L D : Nat) (fn : FuncId) (tmps : Array Value) (w1 : World), FH n l ⟨tmps, []⟩ → Mem w1 ((L, .loop (recL .ready fn tmps ps assign body D)) :: (D, .deferred (some [])) :: own) ro →
      Calls P gf (#[.func (.yield L) #[] #[]] ++ lb) w1 fun e w2 => (∃ v, e = .returned v) ∧ ∃ x, I x ∧ Mem w2 ((L, .loop (recL .ready fn tmps ps assign body D)) :: (D, .deferred (some [])) :: O x) ro)
    (h : ∀ D x, I x → SD D (Q .normal) n l ((D, .deferred (some [])) :: O x) ro) : W P (.rangeFunc g ps assign body) Q n l own ro := by
  intro a w ha hw
  refine (wpIn_wide (n := 1)).1 (wpIn_rangeFunc ?_)
  intro fn _
  have hgv := ha.eval hg
  have hdf : a.defers = [] := ha.df
  have h1 : Mem (w.alloc (.deferred (some []))) ((w.heap.size, .deferred (some [])) :: own) ro := hw.new _
  have h2 : Mem ((w.alloc (.deferred (some []))).alloc (.loop (recL .ready fn a.tmps ps assign body w.heap.size))) ((w.heap.size + 1, .loop (recL .ready fn a.tmps ps assign body w.heap.size)) :: (w.heap.size, .deferred (some [])) :: own) ro := by
    have h3 := h1.new (.loop (recL .ready fn a.tmps ps assign body w.heap.size))
    rwa [World.size_alloc] at h3
  have hfh : FH n l ⟨a.tmps, []⟩ := ⟨ha.sz, rfl, ha.at_⟩
  have hC := hc _ _ fn a.tmps _ hfh h2
  have hC2 : CallsIn Fence.wide 0 P gf (#[.func (.yield (w.heap.size + 1)) #[] #[]] ++ lb) ((w.alloc (.deferred (some []))).alloc (.loop (recL .ready fn a.tmps ps assign body w.heap.size))) (rangePost Fence.wide 1 P (w.heap.size + 1) Q { a with defers := [{ target := .collected w.heap.size, args := #[] }] ++ a.defers }) := by
    refine callsIn_wide.2 (Calls.mono hC ?_)
    rintro e w2 ⟨⟨v, rfl⟩, x, hx, hm⟩
    have hl := hm.own_at _ (.head _)
    refine ⟨none, _, run_endLoop hl (by simp [recL]), ?_⟩
    have h4 := Mem.turn (l1 := []) hm (turned_put (o' := .loop { recL .ready fn a.tmps ps assign body w.heap.size with state := .exhausted }) hl)
    have h5 := h _ x hx a _ ha (h4.less (List.sublist_cons_self _ _) (fun _ h => h))
    rw [hdf]
    exact h5
  clear hC h2 h1
  have hres : (resolve a.eval (rangeCall g (w.heap.size + 1)) 0).run P ((w.alloc (.deferred (some []))).alloc (.loop (recL .ready fn a.tmps ps assign body w.heap.size))) = .ok { target := .fn (.func gf) lb, args := #[.func (.yield (w.heap.size + 1)) #[] #[]] } ((w.alloc (.deferred (some []))).alloc (.loop (recL .ready fn a.tmps ps assign body w.heap.size))) := by
    simp only [resolve, hgv]
    simp [go_sem]
  have hinv : ∀ W : World, (invoke (.fn (.func gf) lb) #[.func (.yield (w.heap.size + 1)) #[] #[]]).run P W = .ok (.enter gf (#[.func (.yield (w.heap.size + 1)) #[] #[]] ++ lb)) W := fun W => by simp [invoke, go_sem, eg]
  exact ⟨w.heap.size + 1, [{ target := .collected w.heap.size, args := #[] }], _, _, _, gf, _, _, run_enterLoop_outer _ _ _ _ _, hres, fun _ _ => trivial, hinv _, fun h => by simp [Fence.wide] at h, hC2⟩
theorem enterM {f : FuncId} {fd : Func} {c : Code} {vs : List Value} {w : World} (m : Nat) (hf : P.funcs[f]? = some fd) (hb : fd.body = some c) (hn : fd.ntmps = n) (hv : decide (vs.length ≤ n) = true)
    (h : W P c (bodyPostM Fence.wide m P fd R) n (slots 0 vs) [] [(w, fun _ => True)]) : Calls P f vs.toArray w R := by
  have hv' := of_decide_eq_true hv
  refine callsIn_wide.1 (callsIn_of_wp_marks hf hb trivial ((wpIn_wide (n := m)).2 (h _ w ⟨by simp [hn]; omega, rfl, fun s v hs => ?_⟩ (Mem.init w))) rfl)
  obtain ⟨_, h2⟩ := slots_lookup _ _ _ _ hs
  simp only [Nat.sub_zero] at h2
  have hlt : s < vs.length := (List.getElem?_eq_some_iff.1 h2).1
  show (vs.toArray ++ _)[s]? = some v
  rw [Array.getElem?_append_left (by simpa using hlt)]
  simpa using h2
theorem sd_then {y : Code} (h : SD D (y.wp P Q) n l own ro) : SD D (Exit.then (y.wp P Q) Q .normal) n l own ro := h
theorem sd_block {id : Nat} (h : SD D (Q .normal) n l own ro) : SD D (Exit.inBlock id Q .normal) n l own ro := h
theorem sd_seq {x y : Code} (h : SD D (x.wp P (Exit.then (y.wp P Q) Q)) n l own ro) : SD D ((Code.seq x y).wp P Q) n l own ro := fun a w ha hw => wp_seq (h a w ha hw)
theorem sd_ret (h : SD D (Q .ret) n l own ro) : SD D (Code.ret.wp P Q) n l own ro := fun a w ha hw => wp_ret (h a w ha hw)
def SDL (D : Nat) (P : Program) (ops : Array Oper) (Q : Exit → Act → World → Prop) (r : List Oper) (n : Nat) (l : List (Nat × Value)) (own : List (Nat × Obj)) (ro : List Snap) : Prop :=
  SD D (fun a w => wpList P ops Q r a w) n l own ro
theorem sd_region {id : Nat} {lops : List Oper} (h : SDL D P lops.toArray Q lops n l own ro) : SD D ((Code.region id lops.toArray false).wp P Q) n l own ro := fun a w ha hw => wp_region_lit (h a w ha hw)
theorem sdl_val {ops : Array Oper} {d : Nat} {op : Op} {ty : TypeId} {pos : String} {af : Array Edge} {r : List Oper} {v : Value} (hd : decide (d < n) = true) (hv : OpV P n l own ro op ty v) (h : SDL D P ops Q r n ((d, v) :: l) own ro) :
    SDL D P ops Q (⟨some d, op, ty, pos, af, none⟩ :: r) n l own ro := by
  intro a w ha hw
  refine wpList_step fun K hK => ?_
  rw [if_pos (by simp [Region.wanted])]
  have he : (Act.eval { a with defers := [{ target := .collected D, args := #[] }] }) = a.eval := by funext x; cases x <;> rfl
  unfold Oper.wp
  rw [he, hv a w _ ha hw rfl rfl]
  exact hK _ _ (h _ w (ha.put v (of_decide_eq_true hd)) hw)
theorem sdl_end {ops : Array Oper} (h : SD D (Q .normal) n l own ro) : SDL D P ops Q [] n l own ro := h
theorem ret1M {fd : Func} {t : Tmp} {v : Value} (hr : fd.results = #[.tmp t]) (hv : l.lookup t = some v) (h : ∀ w', Mem w' rest ro → R (.returned v) w') : SD D (bodyPostM Fence.wide m P fd R .ret) n l ((D, .deferred (some [])) :: rest) ro := by
  intro a w ha hw
  have hl := hw.own_at _ (.head _)
  have hm2 := (Mem.turn (l1 := []) hw (turned_put (o' := .deferred none) hl)).less (List.sublist_cons_self _ _) (fun _ h => h)
  refine ⟨by simp, .inl ⟨D, _, rfl, run_takeDeferred hl, v, ?_, h _ hm2⟩⟩
  have := ha.at_ t _ hv
  rw [results_tmp hr]
  simp [Array.getD_eq_getD_getElem?, this]
end
end Go.PK

namespace Go.PK
open Go Go.RowKit
def baseL : List Int → List Int → Int → Int
  | s :: ss, l :: ls, n => baseL ss ls (n * l + s - 1)
  | _, _, n => n
def lowP : List Int → Int → List Int × Int
  | [], r => ([], r)
  | l :: ls, r => (((lowP ls r).2 % l + 1) :: (lowP ls r).1, (lowP ls r).2 / l)
def valL : List Int → List Int → Int → Int
  | n :: ns, l :: ls, k => valL ns ls (k * l + n - 1)
  | _, _, k => k
def lvOK (ss ls : List Int) : Prop := ss.length = ls.length ∧ ∀ j (h1 : j < ss.length) (h2 : j < ls.length), 1 ≤ ls[j] ∧ ls[j] ≤ 1000 ∧ 1 ≤ ss[j] ∧ ss[j] ≤ ls[j]
theorem lvOK.tl {s l : Int} {ss ls : List Int} (h : lvOK (s :: ss) (l :: ls)) : lvOK ss ls := ⟨by simpa using h.1, fun j h1 h2 => by
  have := h.2 (j + 1) (by simpa using h1) (by simpa using h2)
  simpa using this⟩
theorem lvOK.hd {s l : Int} {ss ls : List Int} (h : lvOK (s :: ss) (l :: ls)) : 1 ≤ l ∧ l ≤ 1000 ∧ 1 ≤ s ∧ s ≤ l := h.2 0 (by simp) (by simp)
end Go.PK

namespace Go.PK
open Go Go.RowKit
structure Pat where
  first : Int
  days : Int
  lv : List Int
  st : List Int
deriving DecidableEq
def lvAt (p : Pat) (j : Nat) : Prop := 1 ≤ p.lv.getD j 0 ∧ p.lv.getD j 0 ≤ 1000 ∧ 1 ≤ p.st.getD j 0 ∧ p.st.getD j 0 ≤ p.lv.getD j 0
instance (p : Pat) (j : Nat) : Decidable (lvAt p j) := by unfold lvAt; infer_instance
def rightQ (p : Pat) : Prop := (1 ≤ p.lv.length ∧ p.lv.length ≤ 4 ∧ p.st.length = p.lv.length ∧ p.lv.getD 0 0 = 0 ∧ 0 ≤ p.st.getD 0 0 ∧ p.st.getD 0 0 ≤ 1000000) ∧ (∀ j, j < p.lv.length → 1 ≤ j → lvAt p j) ∧ (1 ≤ p.days ∧ p.days ≤ 10000) ∧ okDay p.first
instance (p : Pat) : Decidable (rightQ p) := by unfold rightQ; infer_instance
theorem getD_lt {l : List Int} {j : Nat} (h : j < l.length) : l.getD j 0 = l[j] := by rw [List.getD_eq_getElem?_getD, List.getElem?_eq_getElem h]; rfl
theorem rightQ.split {p : Pat} (h : rightQ p) : ∃ s0 ls ss, p.lv = 0 :: ls ∧ p.st = s0 :: ss ∧ 0 ≤ s0 ∧ s0 ≤ 1000000 ∧ lvOK ss ls ∧ ls.length ≤ 3 := by
  obtain ⟨⟨h1, h2, h3, h4, h5, h6⟩, h7, _, _⟩ := h
  obtain ⟨f, d, lv, st⟩ := p
  dsimp only at h1 h2 h3 h4 h5 h6 h7
  cases lv with
  | nil => simp at h1
  | cons a ls =>
    cases st with
    | nil => simp at h3
    | cons s0 ss =>
      have h4 : a = 0 := h4
      subst h4
      refine ⟨s0, ls, ss, rfl, rfl, h5, h6, ⟨by simpa using h3, fun j a b => ?_⟩, by simpa using h2⟩
      have := h7 (j + 1) (by simpa using b) (by omega)
      unfold lvAt at this
      dsimp only at this
      simp only [List.getD_cons_succ] at this
      rw [getD_lt a, getD_lt b] at this
      exact this
def baseP (p : Pat) : Int := baseL p.st.tail p.lv.tail 0
def lowK (p : Pat) (k : Int) : List Int × Int := lowP p.lv.tail (baseP p + k)
def numsP (p : Pat) (k : Int) : List Int := (p.st.headD 0 + (lowK p k).2) :: (lowK p k).1
theorem lvOK.one {ss ls : List Int} (h : lvOK ss ls) : ∀ l ∈ ls, 1 ≤ l := fun l hl => by
  obtain ⟨j, hj, rfl⟩ := List.mem_iff_getElem.1 hl
  exact (h.2 j (by rw [h.1]; exact hj) hj).1
def numK (p : Pat) (ns : List Int) : Int := valL ns.tail p.lv.tail (ns.getD 0 0 - p.st.getD 0 0) - baseP p
def numC (p : Pat) (ns : List Int) : Prop := rightQ p ∧ ns.length = p.lv.length ∧ p.st.getD 0 0 ≤ ns.getD 0 0 ∧ ns.getD 0 0 ≤ p.st.getD 0 0 + 100000 ∧ (∀ j, j < ns.length → 1 ≤ j → 1 ≤ ns.getD j 0 ∧ ns.getD j 0 ≤ p.lv.getD j 0) ∧ 0 ≤ numK p ns ∧ numK p ns < 100000
instance (p : Pat) (ns : List Int) : Decidable (numC p ns) := by unfold numC; infer_instance
def numP (p : Pat) (ns : List Int) : Option Int := if numC p ns then some (numK p ns) else none
end Go.PK

namespace Go.PK
open Go Go.RowKit
theorem rightQ.at {p : Pat} (h : rightQ p) {j : Nat} (h1 : 1 ≤ j) (h2 : j < p.lv.length) : 1 ≤ p.lv.getD j 0 ∧ p.lv.getD j 0 ≤ 1000 ∧ 1 ≤ p.st.getD j 0 ∧ p.st.getD j 0 ≤ p.lv.getD j 0 := h.2.1 j h2 h1
theorem getD_tail (l : List Int) (j : Nat) : l.tail.getD j 0 = l.getD (j + 1) 0 := by cases l <;> simp
section
variable {P : Program} {n : Nat} {l : List (Nat × Value)} {own : List (Nat × Obj)} {ro : List Snap} {lops : List Oper} {Q : Exit → Act → World → Prop} {K : Act → World → Prop}
  {rest : List (Option Bool × Nat)} {k : Option Bool} {i d : Nat} {op : Op} {ty : TypeId} {pos : String} {af : Array Edge} {x y z' : Operand} {t t1 t2 : TypeId}
end
end Go.PK

namespace Go.PK
open Go Go.RowKit
section
variable {P : Program} {H : Type} {enc : TypeId × Value → H} {W : World} {base b0 : Nat} {sp : Nat → Bool} {held : Bool} {r : Reach} {t e : TypeId} {v : Value} {d : DataW H} {ps : List MemPlace}
end
end Go.PK

namespace Go.PK
open Go Go.RowKit
theorem rightQ.one {p : Pat} (h : rightQ p) : ∀ l ∈ p.lv.tail, 1 ≤ l := fun l hl => by
  obtain ⟨j, hj, rfl⟩ := List.getElem_of_mem hl
  have hj' : j + 1 < p.lv.length := by simp at hj; omega
  have := (h.at (j := j + 1) (by omega) hj').1
  rw [← getD_lt hj, getD_tail]; exact this
theorem numP_some {p : Pat} {ns : List Int} (h : numC p ns) : (numP p ns).getD 0 = numK p ns ∧ (numP p ns).isSome = true := by unfold numP; rw [if_pos h]; exact ⟨rfl, rfl⟩
theorem numP_none {p : Pat} {ns : List Int} (h : ¬numC p ns) : (numP p ns).getD 0 = 0 ∧ (numP p ns).isSome = false := by unfold numP; rw [if_neg h]; exact ⟨rfl, rfl⟩
end Go.PK

namespace Go.PK
open Go Go.RowKit
theorem rowOK.set {size n b c k : Nat} {cs xs : List Value} {v : Value} (h : rowOK size (some (b, cs, c)) n xs) (hk : k < n * size) : rowOK size (some (b, cs.set k v, c)) n (xs.set k v) := by
  obtain ⟨h1, h2, h3, h4, h5⟩ := h
  exact ⟨by simpa using h1, h2, h3, by simpa using h4, by simp only at h5 ⊢; rw [List.take_set, h5]⟩
theorem rightQ.lv {p : Pat} (h : rightQ p) : lvOK p.st.tail p.lv.tail := by
  obtain ⟨s0, ls, ss, h1, h2, _, _, h5, _⟩ := h.split
  rw [h1, h2]; exact h5
end Go.PK

namespace Go.PK
open Go Go.RowKit
end Go.PK

namespace Go.PK
open Go Go.RowKit
structure Ent where
  fr : Int
  to : Int
  sk : Bool
  day : Int
deriving DecidableEq
def entC (x : Ent) : List Value := [.int .i64 x.fr, .int .i64 x.to, .bool x.sk, .int .i64 x.day]
def entsC (l : List Ent) : List Value := l.flatMap entC
def entIn (x : Ent) : Prop := in64 x.fr ∧ in64 x.to ∧ in64 x.day
def tyEnt : Ty Ent where
  size := 4
  rd := fun _ _ cs x => cs = entC x ∧ entIn x
  len := fun h => by rw [h.1]; rfl
  keep := fun h _ => h
theorem ents_rd {D : Nat → Prop} {w : World} {own : List (Nat × Obj)} {ro : List Snap} {e : TypeId} {R : RowS} {es : List Ent} {n : Nat} (hr : rowOK 4 R n (entsC es)) (hn : n = es.length) (hi : ∀ x ∈ es, entIn x)
    (hm : Mem w own ro) (hin : ∀ p ∈ rowO e R, p ∈ own) (hD : ∀ p ∈ rowO e R, D p.1) : sliceRd tyEnt D w (rowV R n) es := by
  subst hn
  have h : RowT tyEnt (fun _ => False) w R es := ⟨es.map entC, by simp, by rw [← List.flatMap_def]; exact hr, fun j h1 h2 => by rw [List.getElem_map]; exact ⟨rfl, hi _ (List.getElem_mem h2)⟩⟩
  exact h.rd hm hin (fun _ h => h.elim) hD rfl
def atoiV (x : ByteArray) : Int := match Lib.atoiAll (bl x) with | .ok n => n | _ => 0
def numOKb (x : ByteArray) : Bool := match Lib.atoiAll (bl x) with | .ok n => decide (0 ≤ n) && decide (x.size ≤ 7) && decide (itoaS n = x) | _ => false
def splitG (s sep : ByteArray) : List ByteArray := Lib.splitB sep 0 (Lib.countB s sep) s
def slash : ByteArray := ⟨#[47]⟩
def numsOf (s : ByteArray) : List Int × Bool := if (splitG s slash).all numOKb then ((splitG s slash).map atoiV, decide ((splitG s slash).length ≤ 4)) else ([], false)
def cutG (s sep : ByteArray) : ByteArray × ByteArray × Bool := (⟨(Lib.cut (bl s) (bl sep)).1.toArray⟩, ⟨(Lib.cut (bl s) (bl sep)).2.1.toArray⟩, (Lib.cut (bl s) (bl sep)).2.2)
def insI (es : List Ent) (to : Int) : Nat := es.findIdx (fun e => decide (to < e.fr))
def insE (es : List Ent) (x : Ent) : List Ent := es.take (insI es x.to) ++ x :: es.drop (insI es x.to)
theorem insI_le (es : List Ent) (to : Int) : insI es to ≤ es.length := List.findIdx_le_length
def tkR (text : ByteArray) : ByteArray := ⟨(Lib.trimPrefix (bl text) (bl ⟨#[120]⟩)).toArray⟩
def tkA (text : ByteArray) : ByteArray := (cutG (tkR text) ⟨#[45]⟩).1
def tkB (text : ByteArray) : ByteArray := if (cutG (tkR text) ⟨#[45]⟩).2.2 then (cutG (tkR text) ⟨#[45]⟩).2.1 else (cutG (tkR text) ⟨#[45]⟩).1
def tkS (text : ByteArray) : Bool := Lib.hasPrefix (bl text) (bl ⟨#[120]⟩)
theorem numP_rng (p : Pat) (ns : List Int) : 0 ≤ (numP p ns).getD 0 ∧ (numP p ns).getD 0 < 100000 := by
  by_cases h : numC p ns
  · rw [(numP_some h).1]; exact h.2.2.2.2.2
  · rw [(numP_none h).1]; decide
end Go.PK

namespace Go.PK
open Go Go.RowKit
def serC (p : Pat) (r1 r2 R : RowS) (n : Nat) : List Value := [.int .i64 p.first, .int .i64 p.days, rowV r1 p.lv.length, rowV r2 p.st.length, rowV R n]
structure SerOK (p : Pat) (es : List Ent) (r1 r2 R : RowS) : Prop where
  fst : in64 p.first
  dys : in64 p.days
  lvs : rowOK 1 r1 p.lv.length (p.lv.map (Value.int .i64))
  lin : ∀ d ∈ p.lv, in64 d
  sts : rowOK 1 r2 p.st.length (p.st.map (Value.int .i64))
  sin : ∀ d ∈ p.st, in64 d
  ent : rowOK 4 R es.length (entsC es)
  ein : ∀ x ∈ es, entIn x
theorem SerOK.with {p : Pat} {es es' : List Ent} {r1 r2 R R' : RowS} (h : SerOK p es r1 r2 R) (h1 : rowOK 4 R' es'.length (entsC es')) (h2 : ∀ x ∈ es', entIn x) : SerOK p es' r1 r2 R' := ⟨h.fst, h.dys, h.lvs, h.lin, h.sts, h.sin, h1, h2⟩
end Go.PK

namespace Go.PK
open Go Go.RowKit
def entOK (x : Ent) : Prop := 0 ≤ x.fr ∧ x.fr ≤ x.to ∧ x.to < 100000 ∧ x.to - x.fr < 100 ∧ okDay x.day
theorem entOK.in {x : Ent} (h : entOK x) : entIn x := by
  obtain ⟨h1, h2, h3, h4, h5⟩ := h
  unfold okDay at h5
  exact ⟨by unfold in64; omega, by unfold in64; omega, by unfold in64; omega⟩
structure SerRd (w : World) (b : Nat) (p : Pat) (es : List Ent) (v1 v2 v3 : Value) : Prop where
  cells : ∀ j (hj : j < [Value.int .i64 p.first, Value.int .i64 p.days, v1, v2, v3].length), w.cell? ⟨b, j, none⟩ = some [Value.int .i64 p.first, Value.int .i64 p.days, v1, v2, v3][j]
  lvs : sliceRd tyI (fun _ => True) w v1 p.lv
  sts : sliceRd tyI (fun _ => True) w v2 p.st
  fst : in64 p.first
  dys : in64 p.days
  ent : sliceRd tyEnt (fun _ => True) w v3 es
theorem SerOK.rd {p : Pat} {es : List Ent} {r1 r2 R : RowS} (h : SerOK p es r1 r2 R) {w : World} {own : List (Nat × Obj)} {ro : List Snap} {b : Nat} {e e1 e2 : TypeId} (hm : Mem w own ro) (hb : (b, Obj.cells (serC p r1 r2 R es.length).toArray e (0, 0)) ∈ own)
    (h1 : ∀ q ∈ rowO e1 r1, q ∈ own) (h2 : ∀ q ∈ rowO e1 r2, q ∈ own) (h3 : ∀ q ∈ rowO e2 R, q ∈ own) : SerRd w b p es (rowV r1 p.lv.length) (rowV r2 p.st.length) (rowV R es.length) where
  cells := fun j hj => by
    have := hm.cell_own hb j
    rw [this, List.getElem?_toArray]
    exact List.getElem?_eq_getElem (l := serC p r1 r2 R es.length) hj
  lvs := rowI_rd (e := e1) h.lvs rfl h.lin hm h1 (fun _ _ => trivial)
  sts := rowI_rd (e := e1) h.sts rfl h.sin hm h2 (fun _ _ => trivial)
  fst := h.fst
  dys := h.dys
  ent := ents_rd (e := e2) h.ent rfl h.ein hm h3 (fun _ _ => trivial)
theorem SerRd.keep {w w' : World} {b : Nat} {p : Pat} {es : List Ent} {v1 v2 v3 : Value} (h : SerRd w b p es v1 v2 v3) (hl : Later w w') : SerRd w' b p es v1 v2 v3 :=
  ⟨fun j hj => (hl.cell (p := ⟨b, j, none⟩) (cell_lt (h.cells j hj))).trans (h.cells j hj), h.lvs.keep (Kept.later hl), h.sts.keep (Kept.later hl), h.fst, h.dys, h.ent.keep (Kept.later hl)⟩
end Go.PK

namespace Go.PK
open Go Go.RowKit
end Go.PK

namespace Go.PK
open Go Go.RowKit
end Go.PK

namespace Go.PK
open Go Go.RowKit
section
variable {P : Program} {n : Nat} {l : List (Nat × Value)} {own : List (Nat × Obj)} {ro : List Snap} {ty t t' : TypeId} {x y : Operand}
end
end Go.PK

namespace Go.PK
open Go Go.RowKit
end Go.PK

namespace Go.PK
open Go Go.RowKit
end Go.PK

namespace Go.PK
open Go Go.RowKit
end Go.PK

namespace Go.PK
open Go Go.RowKit
end Go.PK

namespace Go.PK
open Go Go.RowKit
end Go.PK

namespace Go.PK
open Go Go.RowKit
section
variable (rd : ByteArray → Int × Int)
end
end Go.PK

namespace Go.PK
open Go Go.RowKit
def numG (n : Nat) : List UInt8 := if h : n < 128 then [UInt8.ofNat n] else UInt8.ofNat (n % 128 + 128) :: numG (n / 128)
termination_by n
decreasing_by omega
theorem numG_small {n : Nat} (h : n < 128) : numG n = [UInt8.ofNat n] := by rw [numG, dif_pos h]
theorem numG_big {n : Nat} (h : ¬n < 128) : numG n = UInt8.ofNat (n % 128 + 128) :: numG (n / 128) := by rw [numG, dif_neg h]
theorem numG_len : ∀ (k n : Nat), n < 128 ^ (k + 1) → (numG n).length ≤ k + 1
  | 0, n, h => by rw [numG_small (by simpa using h)]; exact Nat.le_refl _
  | k + 1, n, h => by
    by_cases hn : n < 128
    · rw [numG_small hn]; simp
    · rw [numG_big hn, List.length_cons]
      have := numG_len k (n / 128) (by rw [Nat.div_lt_iff_lt_mul (by decide), ← Nat.pow_succ]; exact h)
      omega
theorem numG_ten {n : Nat} (h : n < 18446744073709551616) : (numG n).length ≤ 10 := numG_len 9 n (Nat.lt_of_lt_of_le h (by decide))
theorem numG_pos (n : Nat) : 1 ≤ (numG n).length := by
  by_cases hn : n < 128
  · rw [numG_small hn]; exact Nat.le_refl _
  · rw [numG_big hn, List.length_cons]; omega
theorem or128 {c : Nat} (h : c < 128) : orK .u8 (((UInt8.ofNat c).toNat : Nat) : Int) 128 = ((UInt8.ofNat (c + 128)).toNat : Nat) := by
  have key : ∀ c : Fin 128, orK .u8 (((UInt8.ofNat c.val).toNat : Nat) : Int) 128 = ((UInt8.ofNat (c.val + 128)).toNat : Nat) := by decide +kernel
  exact key ⟨c, h⟩
def sgn (n : Int) : Nat := if 0 ≤ n then (2 * n).toNat else (2 * (-1 - n) + 1).toNat
theorem sgn_lt {n : Int} (h : -9223372036854775808 ≤ n ∧ n ≤ 9223372036854775807) : sgn n < 18446744073709551616 := by unfold sgn; split <;> omega
theorem bv_xor0 (a : Int) : (BitVec.ofInt 64 a ^^^ BitVec.ofInt 64 0).toNat = (BitVec.ofInt 64 a).toNat := by simp
theorem bv_xor1 (a : Int) : (BitVec.ofInt 64 a ^^^ BitVec.ofInt 64 18446744073709551615).toNat = 18446744073709551615 - (BitVec.ofInt 64 a).toNat := by
  rw [show BitVec.ofInt 64 18446744073709551615 = BitVec.allOnes 64 by decide, BitVec.xor_allOnes, BitVec.toNat_not]
theorem xor_sgn {n : Int} (h : -9223372036854775808 ≤ n ∧ n ≤ 9223372036854775807) : xorK .u64 (IntKind.u64.wrap (IntKind.u64.wrap n * 2)) (IntKind.u64.wrap (n / 9223372036854775808)) = (sgn n : Nat) := by
  have w64 : ∀ z : Int, IntKind.u64.wrap z = z % 18446744073709551616 := fun z => by simp [IntKind.wrap, IntKind.bits, IntKind.signed]
  unfold xorK
  rw [w64, w64, w64, w64]
  by_cases h0 : 0 ≤ n
  · have e1 : n / 9223372036854775808 = 0 := by omega
    rw [e1, show (0 : Int) % 18446744073709551616 = 0 by decide]
    show (((BitVec.ofInt 64 _ ^^^ BitVec.ofInt 64 0).toNat : Nat) : Int) % _ = _
    rw [bv_xor0, BitVec.toNat_ofInt]
    unfold sgn
    rw [if_pos h0]
    have e2 : n % 18446744073709551616 * 2 % 18446744073709551616 = 2 * n := by omega
    rw [e2]
    have e3 : (2 * n % ((2 ^ 64 : Nat) : Int)).toNat = (2 * n).toNat := by
      have : ((2 ^ 64 : Nat) : Int) = 18446744073709551616 := by decide
      rw [this]; congr 1; omega
    rw [e3]; omega
  · have e1 : n / 9223372036854775808 = -1 := by omega
    rw [e1, show (-1 : Int) % 18446744073709551616 = 18446744073709551615 by decide]
    show (((BitVec.ofInt 64 _ ^^^ BitVec.ofInt 64 18446744073709551615).toNat : Nat) : Int) % _ = _
    rw [bv_xor1, BitVec.toNat_ofInt]
    unfold sgn
    rw [if_neg h0]
    have e2 : n % 18446744073709551616 * 2 % 18446744073709551616 = 18446744073709551616 + 2 * n := by omega
    rw [e2]
    have e3 : ((18446744073709551616 + 2 * n) % ((2 ^ 64 : Nat) : Int)).toNat = (18446744073709551616 + 2 * n).toNat := by
      have : ((2 ^ 64 : Nat) : Int) = 18446744073709551616 := by decide
      rw [this]; congr 1; omega
    rw [e3]; omega
def intsG (l : List Int) : List UInt8 := numG l.length ++ l.flatMap fun n => numG (sgn n)
def intsT (l : List Int) (k : Nat) : List UInt8 := numG l.length ++ (l.take k).flatMap fun n => numG (sgn n)
theorem intsT_zero (l : List Int) : intsT l 0 = numG l.length := by simp [intsT]
theorem intsT_succ {l : List Int} {k : Nat} (h : k < l.length) : intsT l (k + 1) = intsT l k ++ numG (sgn l[k]) := by
  unfold intsT
  rw [← List.take_append_getElem h, List.flatMap_append, List.append_assoc]; simp
theorem intsT_all (l : List Int) : intsT l l.length = intsG l := by unfold intsT intsG; rw [List.take_length]
theorem intsT_len {l : List Int} (hl : l.length < 18446744073709551616) (h : ∀ n ∈ l, -9223372036854775808 ≤ n ∧ n ≤ 9223372036854775807) : ∀ k, k ≤ l.length → (intsT l k).length ≤ 10 + 10 * k
  | 0, _ => by rw [intsT_zero]; exact numG_ten hl
  | k + 1, hk => by
    have ih := intsT_len hl h k (by omega)
    rw [intsT_succ hk, List.length_append]
    have := numG_ten (sgn_lt (h _ (List.getElem_mem hk)))
    omega
theorem u64_wrap {n : Int} (h : 0 ≤ n ∧ n < 18446744073709551616) : IntKind.u64.wrap n = n := by
  simp [IntKind.wrap, IntKind.bits, IntKind.signed]; omega
section
variable {P : Program} {n : Nat} {l : List (Nat × Value)} {own : List (Nat × Obj)} {ro : List Snap} {ty t t' : TypeId} {x y : Operand} {k k' : IntKind} {a b c : Int}
theorem v_convE {td : TypeDesc} (hs : P.underlying t = some td) (hd : P.underlying t' = some (.int k')) (hx : ev l x = some (.int k a)) (hc : k'.wrap a = c) : OpV P n l own ro (.convert t t' x) ty (.int k' c) := hc ▸ v_conv hs hd hx
end
end Go.PK

namespace Go.PK
open Go Go.RowKit
def txTo (ns : List Int) : Nat → ByteArray
  | 0 => ⟨#[]⟩
  | k + 1 => (if 0 < k then txTo ns k ++ slash else txTo ns k) ++ itoaS (ns.getD k 0)
def txN (ns : List Int) : ByteArray := txTo ns ns.length
def isT (p : Pat) (sk : Bool) (k : Int) : ByteArray := if sk then ⟨#[120]⟩ ++ txN (numsP p k) else txN (numsP p k)
end Go.PK

namespace Go.PK
open Go Go.RowKit
def tkE (p : Pat) (text : ByteArray) (day : Int) : Option Ent × Int :=
  if (!(numsOf (tkA text)).2 || !(numsOf (tkB text)).2) = true then (none, 11) else
  if okDay day then
    match numP p (numsOf (tkA text)).1, numP p (numsOf (tkB text)).1 with
    | some i, some j => if j < i ∨ 100 ≤ j - i then (none, 32) else (some ⟨i, j, tkS text, day⟩, 0)
    | _, _ => (none, 32)
  else (none, 1)
def meets (es : List Ent) (x : Ent) : Bool := es.any fun e => decide (x.fr ≤ e.to) && decide (e.fr ≤ x.to)
theorem tkE_ok {p : Pat} {text : ByteArray} {day : Int} {x : Ent} (h : (tkE p text day).1 = some x) : entOK x ∧ (tkE p text day).2 = 0 := by
  unfold tkE at h ⊢
  split at h
  · cases h
  · rename_i h1
    rw [if_neg h1]
    split at h
    · rename_i h2
      rw [if_pos h2]
      cases h3 : numP p (numsOf (tkA text)).1 with
      | none => rw [h3] at h; cases h
      | some i =>
        cases h4 : numP p (numsOf (tkB text)).1 with
        | none => rw [h3, h4] at h; cases h
        | some j =>
          rw [h3, h4] at h
          dsimp only at h ⊢
          split at h
          · cases h
          · rename_i h5
            rw [if_neg h5]
            injection h with h
            have r1 := numP_rng p (numsOf (tkA text)).1
            have r2 := numP_rng p (numsOf (tkB text)).1
            rw [h3] at r1; rw [h4] at r2
            simp only [Option.getD_some] at r1 r2
            rw [← h]
            exact ⟨⟨r1.1, by dsimp only; omega, r2.2, by dsimp only; omega, h2⟩, rfl⟩
    · cases h
def srt (es : List Ent) : Prop := es.Pairwise (fun x y => x.to < y.fr) ∧ ∀ x ∈ es, entOK x
theorem srt_nil : srt [] := ⟨List.Pairwise.nil, fun x hx => by cases hx⟩
theorem entOK.le {x : Ent} (h : entOK x) : x.fr ≤ x.to := h.2.1
theorem meets_no {es : List Ent} {x : Ent} (h : meets es x = false) : ∀ e ∈ es, x.to < e.fr ∨ e.to < x.fr := fun e he => by
  unfold meets at h
  rw [List.any_eq_false] at h
  have := h e he
  simp only [Bool.and_eq_true, decide_eq_true_eq] at this
  omega
theorem ins_parts {es : List Ent} {x : Ent} (hs : srt es) (hx : entOK x) (hm : meets es x = false) : ∃ A B, es = A ++ B ∧ insE es x = A ++ x :: B ∧ (∀ e ∈ A, e.to < x.fr) ∧ ∀ e ∈ B, x.to < e.fr := by
  refine ⟨es.take (insI es x.to), es.drop (insI es x.to), (List.take_append_drop _ _).symm, rfl, fun e he => ?_, fun e he => ?_⟩
  · have h1 := meets_no hm e (List.mem_of_mem_take he)
    rcases h1 with h1 | h1
    · obtain ⟨j, hj, rfl⟩ := List.getElem_of_mem he
      rw [List.length_take] at hj
      rw [List.getElem_take] at h1
      have := List.not_of_lt_findIdx (xs := es) (p := fun e : Ent => decide (x.to < e.fr)) (i := j) (show j < List.findIdx _ es by unfold insI at hj; omega)
      rw [decide_eq_true h1] at this; cases this
    · exact h1
  · have hi := insI_le es x.to
    obtain ⟨j, hj, rfl⟩ := List.getElem_of_mem he
    rw [List.length_drop] at hj
    rw [List.getElem_drop]
    have hlt : insI es x.to < es.length := by omega
    have h0 : x.to < es[insI es x.to].fr := by
      have := List.findIdx_getElem (xs := es) (p := fun e : Ent => decide (x.to < e.fr)) (w := hlt)
      exact of_decide_eq_true this
    by_cases hj0 : j = 0
    · subst hj0; exact h0
    · have h1 := List.pairwise_iff_getElem.1 hs.1 (insI es x.to) (insI es x.to + j) hlt (by omega) (by omega)
      have h2 := (hs.2 _ (List.getElem_mem hlt)).le
      omega
theorem ins_srt {es : List Ent} {x : Ent} (hs : srt es) (hx : entOK x) (hm : meets es x = false) : srt (insE es x) ∧ (insE es x).Perm (x :: es) := by
  obtain ⟨A, B, h1, h2, h3, h4⟩ := ins_parts hs hx hm
  rw [h2]
  have hp : (A ++ x :: B).Perm (x :: es) := by rw [h1]; exact List.perm_middle
  refine ⟨⟨?_, fun e he => ?_⟩, hp⟩
  · have hs1 := hs.1
    rw [h1, List.pairwise_append] at hs1
    rw [List.pairwise_append]
    refine ⟨hs1.1, List.pairwise_cons.2 ⟨h4, hs1.2.1⟩, fun a ha b hb => ?_⟩
    rcases List.mem_cons.1 hb with rfl | hb
    · exact h3 a ha
    · exact hs1.2.2 a ha b hb
  · rcases List.mem_cons.1 (hp.subset he) with rfl | he
    · exact hx
    · exact hs.2 e he
theorem srt_eq : ∀ {a b : List Ent}, srt a → srt b → a.Perm b → a = b
  | [], b, _, _, h => (List.nil_perm.1 h).symm
  | x :: a, [], _, _, h => by simpa using h.length_eq
  | x :: a, y :: b, ha, hb, h => by
    have hxy : x = y := by
      rcases List.mem_cons.1 (h.subset (List.mem_cons_self ..)) with h1 | h1
      · exact h1
      · rcases List.mem_cons.1 (h.symm.subset (List.mem_cons_self ..)) with h2 | h2
        · exact h2.symm
        · have h3 := (List.pairwise_cons.1 hb.1).1 x h1
          have h4 := (List.pairwise_cons.1 ha.1).1 y h2
          have h5 := (ha.2 x (List.mem_cons_self ..)).le
          have h6 := (hb.2 y (List.mem_cons_self ..)).le
          omega
    subst hxy
    rw [srt_eq ⟨(List.pairwise_cons.1 ha.1).2, fun e he => ha.2 e (List.mem_cons_of_mem _ he)⟩ ⟨(List.pairwise_cons.1 hb.1).2, fun e he => hb.2 e (List.mem_cons_of_mem _ he)⟩ h.cons_inv]
structure ActD where
  fr : Int
  to : Int
  day : Int
  sk : Bool
  two : Bool
  raw : ByteArray
def callT (p : Pat) (a : ActD) : ByteArray := if a.raw ≠ ⟨#[]⟩ then a.raw else
  if a.two then isT p a.sk (a.fr % 200) ++ ⟨#[45]⟩ ++ txN (numsP p (a.to % 320)) else isT p a.sk (a.fr % 200)
def callD (p : Pat) (a : ActD) : Int := IntKind.i64.wrap (p.first + a.day)
def entA (p : Pat) (a : ActD) : Option Ent := (tkE p (callT p a) (callD p a)).1
structure Of (p : Pat) (es : List Ent) (gs : List ActD) : Prop where
  srt : srt es
  all : ∀ a ∈ gs, (entA p a).isSome = true
  perm : es.Perm (gs.filterMap (entA p))
theorem Of.nil (p : Pat) : Of p [] [] := ⟨srt_nil, (fun a ha => by cases ha), List.Perm.refl _⟩
theorem Of.snoc {p : Pat} {es : List Ent} {gs : List ActD} (h : Of p es gs) {a : ActD} {x : Ent} (hx : entA p a = some x) (hm : meets es x = false) : Of p (insE es x) (gs ++ [a]) := by
  obtain ⟨h1, h2⟩ := ins_srt h.srt (tkE_ok hx).1 hm
  refine ⟨h1, fun b hb => ?_, ?_⟩
  · rcases List.mem_append.1 hb with hb | hb
    · exact h.all b hb
    · rw [List.mem_singleton.1 hb, hx]; rfl
  · rw [List.filterMap_append]
    have : List.filterMap (entA p) [a] = [x] := by rw [List.filterMap_cons, hx]; rfl
    rw [this]
    exact h2.trans ((h.perm.cons x).trans (List.perm_append_comm (l₁ := [x])))
theorem apart_of_srt {es : List Ent} (h : srt es) : es.Pairwise fun x y => x.to < y.fr ∨ y.to < x.fr := h.1.imp fun h => .inl h
theorem Of.next {p : Pat} {es es2 : List Ent} {gs g2 : List ActD} (h : Of p es gs) (hp : g2.Perm gs) {k : Nat} (hk : k < g2.length) (h2 : Of p es2 (g2.take k)) : ∃ x, entA p g2[k] = some x ∧ meets es2 x = false ∧ entOK x := by
  have hs : (entA p g2[k]).isSome = true := h.all _ (hp.subset (List.getElem_mem hk))
  obtain ⟨x, hx⟩ := Option.isSome_iff_exists.1 hs
  refine ⟨x, hx, ?_, (tkE_ok hx).1⟩
  have hap : (g2.filterMap (entA p)).Pairwise fun x y => x.to < y.fr ∨ y.to < x.fr :=
    ((apart_of_srt h.srt).perm h.perm (fun h => h.symm)).perm ((hp.symm).filterMap _) (fun h => h.symm)
  have e : g2 = g2.take k ++ g2[k] :: g2.drop (k + 1) := by rw [List.getElem_cons_drop, List.take_append_drop]
  rw [e, List.filterMap_append, List.filterMap_cons, hx, List.pairwise_append] at hap
  cases hm : meets es2 x with
  | false => rfl
  | true =>
    unfold meets at hm
    rw [List.any_eq_true] at hm
    obtain ⟨y, hy, hc⟩ := hm
    rw [Bool.and_eq_true, decide_eq_true_eq, decide_eq_true_eq] at hc
    have := hap.2.2 y (h2.perm.subset hy) x (List.mem_cons_self ..)
    omega
theorem Of.same {p : Pat} {es es2 : List Ent} {gs g2 : List ActD} (h : Of p es gs) (hp : g2.Perm gs) (h2 : Of p es2 g2) : es2 = es :=
  srt_eq h2.srt h.srt (h2.perm.trans ((hp.filterMap _).trans h.perm.symm))
end Go.PK

namespace Go.PK
open Go Go.RowKit
end Go.PK

namespace Go.PK
open Go Go.RowKit
section
variable {P : Program} {n : Nat} {l : List (Nat × Value)} {own : List (Nat × Obj)} {ro : List Snap} {ty t t' : TypeId} {x y : Operand} {k k' : IntKind} {a b c : Int}
end
end Go.PK

namespace Go.PK
open Go Go.RowKit
end Go.PK

namespace Go.PK
open Go Go.RowKit
end Go.PK

namespace Go.PK
open Go Go.RowKit Go.Maps
structure FG where
  id : Int
  par : Int
  s : FSt
deriving DecidableEq
abbrev EN := Ord × Int
def lkF (fs : List FG) (id : Int) : Option FSt := (fs.find? (fun x => decide (x.id = id))).map (·.s)
def setF : List FG → Int → FSt → List FG
  | [], _, _ => []
  | x :: l, id, s => if x.id = id then { x with s := s } :: l else x :: setF l id s
def postG (R : FSt → Int → Int × FSt) (fs : List FG) (id n : Int) : Int × List FG :=
  match lkF fs id with
  | none => (32, fs)
  | some f => ((R f n).1, setF fs id (R f n).2)
def freeG (fs : List FG) (id : Int) : Int := match lkF fs id with | none => 0 | some f => f.free
def lkL (L : List EN) (id : Int) : Option EN := L.find? (fun x => decide (x.1.id = id))
def setL : List EN → EN → List EN
  | [], _ => []
  | x :: l, y => if x.1.id = y.1.id then y :: l else x :: setL l y
def insL : List EN → EN → List EN
  | [], y => [y]
  | x :: l, y => if x.1.id < y.1.id then x :: insL l y else y :: x :: l
structure SG where
  fs : List FG
  tol : Int
  L : List EN
deriving DecidableEq
def placeG (s : SG) (x : Ord) : Int × SG :=
  if writB x = false then (1, s) else if (lkL s.L x.id).isSome = true then (22, s)
  else if (postG encP s.fs x.fund (x.copies * x.price)).1 ≠ 0 then ((postG encP s.fs x.fund (x.copies * x.price)).1, s)
  else (0, ⟨(postG encP s.fs x.fund (x.copies * x.price)).2, s.tol, insL s.L (placedO x, x.price)⟩)
def moveG (fs : List FG) (id b n : Int) : Int × List FG := if n > b then postG encP fs id (n - b) else postG relP fs id (b - n)
def answerG (s : SG) (a : Ord) (e : Int) : Int × SG :=
  if e ≠ 0 then (e, s) else
  match lkL s.L a.id with
  | none => (32, s)
  | some (x, first) =>
    if x.st ≠ 0 ∨ x.paid ≠ 0 then (50, s)
    else if (x.fund ≠ a.fund ∨ ¬(x.src = a.src ∧ x.num = a.num)) ∨ a.copies > x.copies then (1, s)
    else if ¬nearP s.tol a.price first then (61, s)
    else if (moveG s.fs x.fund (resP x) (resP (answO x a))).1 ≠ 0 then ((moveG s.fs x.fund (resP x) (resP (answO x a))).1, s)
    else (0, ⟨(moveG s.fs x.fund (resP x) (resP (answO x a))).2, s.tol, setL s.L (answO x a, first)⟩)
def receiveG (s : SG) (id n : Int) : Int × SG :=
  match lkL s.L id with
  | none => (32, s)
  | some (x, first) =>
    if x.st = -1 then (50, s)
    else if n < 1 ∨ n > x.prom - x.st then (1, s)
    else (0, { s with L := setL s.L ({ x with st := x.st + n }, first) })
def cancelG (s : SG) (id : Int) : Int × SG :=
  match lkL s.L id with
  | none => (32, s)
  | some (x, first) =>
    if x.st = -1 ∨ x.st > x.paid then (50, s)
    else if (postG relP s.fs x.fund (resP x)).1 ≠ 0 then ((postG relP s.fs x.fund (resP x)).1, s)
    else (0, ⟨(postG relP s.fs x.fund (resP x)).2, s.tol, setL s.L ({ x with prom := x.paid, st := -1 }, first)⟩)
def frG (fs : List FG) (fr : Int → Option Int) (id : Int) : Int := match fr id with | some v => v | none => freeG fs id
def frS (fr : Int → Option Int) (id v : Int) : Int → Option Int := fun j => if j = id then some v else fr j
def goI (tol : Int) (fs : List FG) : List EN → (Int → Option Int) → List Ord → Int × List EN
  | L, fr, [] => (0, L)
  | L, fr, ln :: ls =>
    match lkL L ln.id with
    | none => (32, L)
    | some (x, first) =>
      if checkP tol ln (some (x, first)) ≠ 0 then (checkP tol ln (some (x, first)), L)
      else if frG fs fr x.fund + ln.copies * (x.price - ln.price) < 0 then (60, L)
      else goI tol fs (setL L ({ x with paid := x.paid + ln.copies }, first)) (frS fr x.fund (frG fs fr x.fund + ln.copies * (x.price - ln.price))) ls
def pay1 (L : List EN) (fs : List FG) (ln : Ord) : List FG :=
  match lkL L ln.id with
  | none => fs
  | some (x, _) => (postG spdP (postG relP fs x.fund (ln.copies * x.price)).2 x.fund (ln.copies * ln.price)).2
def invoiceG (s : SG) (ls : List Ord) (e : Int) : Int × SG :=
  if e ≠ 0 then (e, s)
  else if (goI s.tol s.fs s.L (fun _ => none) ls).1 ≠ 0 then ((goI s.tol s.fs s.L (fun _ => none) ls).1, s)
  else (0, ⟨ls.foldl (pay1 s.L) s.fs, s.tol, (goI s.tol s.fs s.L (fun _ => none) ls).2⟩)
def ordN (x : Ord) : Prop := (0 ≤ x.price ∧ x.price ≤ 999999999) ∧ (1 ≤ x.copies ∧ x.copies ≤ 9999) ∧ (0 ≤ x.prom ∧ x.prom ≤ 9999) ∧ (0 ≤ x.paid ∧ x.paid ≤ 9999) ∧ (-1 ≤ x.st ∧ x.st ≤ 9999) ∧ (1 ≤ x.id ∧ x.id ≤ 999999999) ∧ (1 ≤ x.fund ∧ x.fund ≤ 999999999) ∧ (0 ≤ x.src ∧ x.src ≤ 999999999) ∧ (0 ≤ x.num ∧ x.num ≤ 999999999)
def enN (e : EN) : Prop := ordN e.1 ∧ 0 ≤ e.2 ∧ e.2 ≤ 999999999
def srtL (L : List EN) : Prop := L.Pairwise (fun a b => a.1.id < b.1.id)
structure SGok (s : SG) : Prop where
  fs : ∀ f ∈ s.fs, fundOK f.s
  tol : 0 ≤ s.tol ∧ s.tol ≤ 1000000
  L : ∀ e ∈ s.L, enN e
  srt : srtL s.L
theorem setF_mem : ∀ {fs : List FG} {id : Int} {s : FSt} {y : FG}, y ∈ setF fs id s → y ∈ fs ∨ y.s = s
  | [], _, _, _, h => .inl h
  | x :: l, id, s, y, h => by
    unfold setF at h
    split at h
    · rcases List.mem_cons.1 h with rfl | h
      · exact .inr rfl
      · exact .inl (.tail _ h)
    · rcases List.mem_cons.1 h with rfl | h
      · exact .inl (.head _)
      · rcases setF_mem h with h | h
        · exact .inl (.tail _ h)
        · exact .inr h
theorem lkF_mem {fs : List FG} {id : Int} {f : FSt} (h : lkF fs id = some f) : ∃ x ∈ fs, x.id = id ∧ x.s = f := by
  unfold lkF at h
  cases hq : fs.find? (fun x => decide (x.id = id)) with
  | none => rw [hq] at h; cases h
  | some x =>
    rw [hq] at h
    have h1 := List.find?_some hq
    have h2 := List.mem_of_find?_eq_some hq
    injection h with h
    exact ⟨x, h2, of_decide_eq_true h1, h⟩
theorem lkF_cons {x : FG} {l : List FG} {id : Int} : lkF (x :: l) id = if x.id = id then some x.s else lkF l id := by
  unfold lkF
  rw [List.find?_cons]
  by_cases h : x.id = id
  · rw [decide_eq_true h, if_pos h]; rfl
  · rw [decide_eq_false h, if_neg h]
theorem lkF_set : ∀ (fs : List FG) (id j : Int) (s : FSt), lkF (setF fs id s) j = if j = id then (lkF fs id).map (fun _ => s) else lkF fs j
  | [], id, j, s => by
    unfold setF lkF
    split <;> rfl
  | x :: l, id, j, s => by
    unfold setF
    by_cases h : x.id = id
    · rw [if_pos h, lkF_cons]
      dsimp only
      by_cases hj : j = id
      · rw [if_pos (h.trans hj.symm), if_pos hj, lkF_cons, if_pos h]; rfl
      · rw [if_neg (fun e => hj (e.symm.trans h)), if_neg hj, lkF_cons, if_neg (fun e => hj (e.symm.trans h))]
    · rw [if_neg h, lkF_cons, lkF_set l]
      by_cases hj : j = id
      · rw [if_pos hj, if_pos hj, if_neg (fun e => h (e.trans hj)), lkF_cons, if_neg h]
      · rw [if_neg hj, if_neg hj, lkF_cons]
theorem setF_same : ∀ {fs : List FG} {id : Int} {f : FSt}, lkF fs id = some f → setF fs id f = fs
  | [], _, _, h => rfl
  | x :: l, id, f, h => by
    rw [lkF_cons] at h
    unfold setF
    by_cases hx : x.id = id
    · rw [if_pos hx] at h ⊢; cases h; rfl
    · rw [if_neg hx] at h ⊢; rw [setF_same h]
theorem post_ok {R : FSt → Int → Int × FSt} (hR : ∀ f n, fundOK f → fundOK (R f n).2) {fs : List FG} {id n : Int} (h : ∀ f ∈ fs, fundOK f.s) : ∀ f ∈ (postG R fs id n).2, fundOK f.s := by
  intro f hf
  unfold postG at hf
  cases hl : lkF fs id with
  | none => rw [hl] at hf; exact h f hf
  | some g =>
    rw [hl] at hf
    obtain ⟨x, hx, _, rfl⟩ := lkF_mem hl
    rcases setF_mem hf with hf | hf
    · exact h f hf
    · rw [hf]; exact hR _ _ (h x hx)
theorem lkL_mem {L : List EN} {id : Int} {e : EN} (h : lkL L id = some e) : e ∈ L ∧ e.1.id = id := by
  have h1 := List.find?_some (p := fun x : EN => decide (x.1.id = id)) h
  exact ⟨List.mem_of_find?_eq_some h, of_decide_eq_true h1⟩
theorem lkL_cons {x : EN} {l : List EN} {id : Int} : lkL (x :: l) id = if x.1.id = id then some x else lkL l id := by
  unfold lkL
  rw [List.find?_cons]
  by_cases h : x.1.id = id
  · rw [decide_eq_true h, if_pos h]
  · rw [decide_eq_false h, if_neg h]
theorem lkL_none {L : List EN} {id : Int} (h : lkL L id = none) : ∀ e ∈ L, e.1.id ≠ id := fun e he hi => by
  have := List.find?_eq_none.1 h e he
  exact this (decide_eq_true hi)
theorem lkL_set : ∀ (L : List EN) (y : EN) (j : Int), lkL (setL L y) j = if j = y.1.id then (lkL L j).map (fun _ => y) else lkL L j
  | [], y, j => by
    unfold setL lkL
    split <;> rfl
  | x :: l, y, j => by
    unfold setL
    by_cases h : x.1.id = y.1.id
    · rw [if_pos h, lkL_cons, lkL_cons]
      by_cases hj : j = y.1.id
      · rw [if_pos hj.symm, if_pos hj, if_pos (h.trans hj.symm)]; rfl
      · rw [if_neg (fun e => hj e.symm), if_neg hj, if_neg (fun e => hj (e.symm.trans h))]
    · rw [if_neg h, lkL_cons, lkL_set l, lkL_cons]
      by_cases hj : j = y.1.id
      · rw [if_pos hj, if_pos hj, if_neg (fun e => h (e.trans hj)), if_neg (fun e => h (e.trans hj))]
      · rw [if_neg hj, if_neg hj]
theorem lkL_ins : ∀ (L : List EN) (y : EN) (j : Int), lkL L y.1.id = none → lkL (insL L y) j = if j = y.1.id then some y else lkL L j
  | [], y, j, h => by
    unfold insL
    rw [lkL_cons]
    by_cases hj : j = y.1.id
    · rw [if_pos hj.symm, if_pos hj]
    · rw [if_neg (fun e => hj e.symm), if_neg hj]
  | x :: l, y, j, h => by
    rw [lkL_cons] at h
    by_cases hx : x.1.id = y.1.id
    · rw [if_pos hx] at h; cases h
    rw [if_neg hx] at h
    unfold insL
    by_cases hl : x.1.id < y.1.id
    · rw [if_pos hl, lkL_cons, lkL_ins l y j h, lkL_cons]
      by_cases hj : j = y.1.id
      · rw [if_pos hj, if_pos hj, if_neg (fun e => hx (e.trans hj))]
      · rw [if_neg hj, if_neg hj]
    · rw [if_neg hl, lkL_cons]
      by_cases hj : j = y.1.id
      · rw [if_pos hj.symm, if_pos hj]
      · rw [if_neg (fun e => hj e.symm), if_neg hj]
theorem setL_ids : ∀ (L : List EN) (y : EN), (setL L y).map (·.1.id) = L.map (·.1.id)
  | [], _ => rfl
  | x :: l, y => by
    unfold setL
    split
    · rename_i h
      rw [List.map_cons, List.map_cons, h]
    · rw [List.map_cons, List.map_cons, setL_ids l]
theorem setL_mem : ∀ {L : List EN} {y e : EN}, e ∈ setL L y → e ∈ L ∨ e = y
  | [], _, _, h => .inl h
  | x :: l, y, e, h => by
    unfold setL at h
    split at h
    · rcases List.mem_cons.1 h with rfl | h
      · exact .inr rfl
      · exact .inl (.tail _ h)
    · rcases List.mem_cons.1 h with rfl | h
      · exact .inl (.head _)
      · rcases setL_mem h with h | h
        · exact .inl (.tail _ h)
        · exact .inr h
theorem insL_mem : ∀ {L : List EN} {y e : EN}, e ∈ insL L y ↔ e ∈ L ∨ e = y
  | [], y, e => by unfold insL; simp
  | x :: l, y, e => by
    unfold insL
    split
    · rw [List.mem_cons, insL_mem (L := l), List.mem_cons, or_assoc]
    · rw [List.mem_cons, or_comm]
theorem srt_ids {L M : List EN} (h : L.map (·.1.id) = M.map (·.1.id)) (hs : srtL L) : srtL M := by
  have h1 : (L.map (·.1.id)).Pairwise (· < ·) := List.pairwise_map.2 hs
  rw [h] at h1
  exact List.pairwise_map.1 h1
theorem srt_set {L : List EN} (hs : srtL L) (y : EN) : srtL (setL L y) := srt_ids (setL_ids L y).symm hs
theorem srt_ins : ∀ {L : List EN} {y : EN}, srtL L → lkL L y.1.id = none → srtL (insL L y)
  | [], y, _, _ => List.pairwise_singleton _ _
  | x :: l, y, hs, h => by
    rw [lkL_cons] at h
    by_cases hx : x.1.id = y.1.id
    · rw [if_pos hx] at h; cases h
    rw [if_neg hx] at h
    obtain ⟨h1, h2⟩ := List.pairwise_cons.1 hs
    unfold insL
    by_cases hl : x.1.id < y.1.id
    · rw [if_pos hl]
      refine List.pairwise_cons.2 ⟨fun e he => ?_, srt_ins h2 h⟩
      rcases insL_mem.1 he with he | rfl
      · exact h1 e he
      · exact hl
    · rw [if_neg hl]
      refine List.pairwise_cons.2 ⟨fun e he => ?_, hs⟩
      have hyx : y.1.id < x.1.id := by omega
      rcases List.mem_cons.1 he with rfl | he
      · exact hyx
      · exact Int.lt_trans hyx (h1 e he)
theorem resN {x : Ord} (h : ordN x) : -99980001000000 ≤ resP x ∧ resP x ≤ 99980001000000 := by
  obtain ⟨⟨o1, o2⟩, _, ⟨o5, o6⟩, ⟨o7, o8⟩, _⟩ := h
  have a1 : x.prom * x.price ≤ 9999 * 999999999 := Int.mul_le_mul o6 o2 o1 (by decide)
  have a2 : x.paid * x.price ≤ 9999 * 999999999 := Int.mul_le_mul o8 o2 o1 (by decide)
  have a3 := Int.mul_nonneg o5 o1
  have a4 := Int.mul_nonneg o7 o1
  unfold resP
  rw [Int.sub_mul]; omega
theorem SGok.at {s : SG} (h : SGok s) {id : Int} {x : Ord} {first : Int} (hl : lkL s.L id = some (x, first)) : ordN x ∧ 0 ≤ first ∧ first ≤ 999999999 := h.L _ (lkL_mem hl).1
theorem SGok.set {s : SG} (h : SGok s) {fs : List FG} {e : EN} (hf : ∀ f ∈ fs, fundOK f.s) (he : enN e) : SGok ⟨fs, s.tol, setL s.L e⟩ :=
  ⟨hf, h.tol, fun y hy => by rcases setL_mem hy with hy | rfl; (· exact h.L y hy); exact he, srt_set h.srt e⟩
theorem writ_ordN {x : Ord} (h : writB x = true) : ordN (placedO x) ∧ 0 ≤ x.price ∧ x.price ≤ 999999999 := by
  have := (writB_iff x).1 h
  unfold wrO at this
  refine ⟨?_, this.2.2.2.2.1⟩
  unfold ordN placedO
  dsimp only
  omega
theorem move_ok {fs : List FG} {id b n : Int} (h : ∀ f ∈ fs, fundOK f.s) : ∀ f ∈ (moveG fs id b n).2, fundOK f.s := by
  unfold moveG
  split
  · exact post_ok (fun f n => enc_ok) h
  · exact post_ok (fun f n => rel_ok) h
theorem place_ok {s : SG} (h : SGok s) (x : Ord) : SGok (placeG s x).2 := by
  unfold placeG
  by_cases h1 : writB x = false
  · rw [if_pos h1]; exact h
  rw [if_neg h1]
  by_cases h2 : (lkL s.L x.id).isSome = true
  · rw [if_pos h2]; exact h
  rw [if_neg h2]
  split
  · exact h
  · have hw := writ_ordN (x := x) (by simpa using h1)
    have hn : lkL s.L x.id = none := by simpa using h2
    refine ⟨post_ok (fun f n => enc_ok) h.fs, h.tol, fun y hy => ?_, srt_ins h.srt hn⟩
    rcases insL_mem.1 hy with hy | rfl
    · exact h.L y hy
    · exact hw
theorem answ_ordN {x a : Ord} (hx : ordN x) (h1 : 0 ≤ a.price ∧ a.price ≤ 999999999) (h2 : 0 ≤ a.copies ∧ a.copies ≤ 9999) : ordN (answO x a) := by
  obtain ⟨_, o3, _, o7, o9, o11, o12, o13, o14⟩ := hx
  exact ⟨h1, o3, h2, o7, o9, o11, o12, o13, o14⟩
theorem answer_ok {s : SG} (h : SGok s) {a : Ord} {e : Int} (h1 : 0 ≤ a.price ∧ a.price ≤ 999999999) (h2 : 0 ≤ a.copies ∧ a.copies ≤ 9999) : SGok (answerG s a e).2 := by
  unfold answerG
  split
  · exact h
  · split
    · exact h
    · rename_i x first hl
      obtain ⟨hx, hf⟩ := h.at hl
      split
      · exact h
      · split
        · exact h
        · split
          · exact h
          · split
            · exact h
            · exact h.set (move_ok h.fs) ⟨answ_ordN hx h1 h2, hf⟩
theorem receive_ok {s : SG} (h : SGok s) (id : Int) {n : Int} : SGok (receiveG s id n).2 := by
  unfold receiveG
  split
  · exact h
  · rename_i x first hl
    obtain ⟨hx, hf⟩ := h.at hl
    split
    · exact h
    · split
      · exact h
      · refine h.set h.fs ⟨?_, hf⟩
        unfold ordN at hx ⊢
        dsimp only
        omega
theorem cancel_ok {s : SG} (h : SGok s) (id : Int) : SGok (cancelG s id).2 := by
  unfold cancelG
  split
  · exact h
  · rename_i x first hl
    obtain ⟨hx, hf⟩ := h.at hl
    split
    · exact h
    · split
      · exact h
      · refine h.set (post_ok (fun f n => rel_ok) h.fs) ⟨?_, hf⟩
        unfold ordN at hx ⊢
        dsimp only
        omega
theorem paid_ordN {x : Ord} {n : Int} (hx : ordN x) (h : 0 ≤ n ∧ n ≤ x.st - x.paid) : ordN { x with paid := x.paid + n } := by
  unfold ordN at hx ⊢
  dsimp only
  omega
theorem check_le {tol : Int} {ln x : Ord} {first : Int} (h : checkP tol ln (some (x, first)) = 0) : ln.copies ≤ x.st - x.paid ∧ x.st ≠ -1 := by
  unfold checkP at h
  dsimp only at h
  split at h
  · cases h
  · split at h
    · cases h
    · split at h
      · cases h
      · rename_i h1 _ h2
        exact ⟨by omega, h1⟩
theorem goI_ok (tol : Int) (fs : List FG) : ∀ (ls : List Ord) (L : List EN) (fr : Int → Option Int), (∀ ln ∈ ls, 0 ≤ ln.copies) → (∀ e ∈ L, enN e) ∧ srtL L → (∀ e ∈ (goI tol fs L fr ls).2, enN e) ∧ srtL (goI tol fs L fr ls).2
  | [], L, fr, _, h => h
  | ln :: ls, L, fr, hl, h => by
    unfold goI
    split
    · exact h
    · rename_i x first hx
      split
      · exact h
      · rename_i hc
        split
        · exact h
        · refine goI_ok tol fs ls _ _ (fun y hy => hl y (.tail _ hy)) ⟨fun y hy => ?_, srt_set h.2 _⟩
          rcases setL_mem hy with hy | rfl
          · exact h.1 y hy
          · obtain ⟨h1, h2⟩ := h.1 _ (lkL_mem hx).1
            exact ⟨paid_ordN h1 ⟨hl ln (.head _), (check_le (Decidable.of_not_not hc)).1⟩, h2⟩
theorem pay1_ok {L : List EN} {fs : List FG} {ln : Ord} (h : ∀ f ∈ fs, fundOK f.s) : ∀ f ∈ pay1 L fs ln, fundOK f.s := by
  unfold pay1
  split
  · exact h
  · exact post_ok (fun f n => spd_ok) (post_ok (fun f n => rel_ok) h)
theorem pays_ok {L : List EN} : ∀ (ls : List Ord) (fs : List FG), (∀ f ∈ fs, fundOK f.s) → ∀ f ∈ ls.foldl (pay1 L) fs, fundOK f.s
  | [], _, h => h
  | ln :: ls, fs, h => pays_ok ls _ (pay1_ok h)
theorem invoice_ok {s : SG} (h : SGok s) {ls : List Ord} {e : Int} (hl : ∀ ln ∈ ls, 0 ≤ ln.copies) : SGok (invoiceG s ls e).2 := by
  unfold invoiceG
  split
  · exact h
  · split
    · exact h
    · obtain ⟨h1, h2⟩ := goI_ok s.tol s.fs ls s.L (fun _ => none) hl ⟨h.L, h.srt⟩
      exact ⟨pays_ok ls _ h.fs, h.tol, h1, h2⟩
structure FM where
  g : FG
  p : Nat
  bel : Value
def fxM (x : FM) : List Value := [.int .i64 x.g.id, .int .i64 x.g.par, .int .i64 x.g.s.al, .int .i64 x.g.s.sp, .int .i64 x.g.s.en, x.bel]
def FB (T : TypeId) (ms : List FM) : List (Nat × Obj) := ms.map fun x => (x.p, Obj.cells (fxM x).toArray T)
def lkM (ms : List FM) (id : Int) : Option FM := ms.find? (fun x => decide (x.g.id = id))
def setM : List FM → Int → FSt → List FM
  | [], _, _ => []
  | x :: l, id, s => if x.g.id = id then { x with g := { x.g with s := s } } :: l else x :: setM l id s
def fsM (ms : List FM) : List FG := ms.map (·.g)
def fMM (ms : List FM) : Value → Option Value
  | .int .i64 id => (lkM ms id).map fun x => .pointer (some ⟨x.p, 0, none⟩)
  | _ => none
def fOL (L : List EN) : Value → Option Value
  | .int .i64 id => (lkL L id).map fun x => orV x.1 x.2
  | _ => none
theorem lkM_cons {x : FM} {l : List FM} {id : Int} : lkM (x :: l) id = if x.g.id = id then some x else lkM l id := by
  unfold lkM
  rw [List.find?_cons]
  by_cases h : x.g.id = id
  · rw [decide_eq_true h, if_pos h]
  · rw [decide_eq_false h, if_neg h]
theorem lkM_F : ∀ (ms : List FM) (id : Int), lkF (fsM ms) id = (lkM ms id).map (·.g.s)
  | [], _ => rfl
  | x :: l, id => by
    rw [lkM_cons]
    show lkF (x.g :: fsM l) id = _
    rw [lkF_cons]
    split
    · rfl
    · exact lkM_F l id
theorem setM_F : ∀ (ms : List FM) (id : Int) (s : FSt), fsM (setM ms id s) = setF (fsM ms) id s
  | [], _, _ => rfl
  | x :: l, id, s => by
    show fsM (setM (x :: l) id s) = setF (x.g :: fsM l) id s
    unfold setM setF
    split
    · rfl
    · show x.g :: fsM (setM l id s) = _
      rw [setM_F l]
theorem lkM_set : ∀ (ms : List FM) (id j : Int) (s : FSt), (lkM (setM ms id s) j).map (·.p) = (lkM ms j).map (·.p)
  | [], _, _, _ => rfl
  | x :: l, id, j, s => by
    unfold setM
    by_cases h : x.g.id = id
    · rw [if_pos h, lkM_cons, lkM_cons]
      dsimp only
      split <;> rfl
    · rw [if_neg h, lkM_cons, lkM_cons]
      split
      · rfl
      · exact lkM_set l id j s
theorem fMM_eq (ms : List FM) (id : Int) : fMM ms (.int .i64 id) = ((lkM ms id).map (·.p)).map fun p => .pointer (some ⟨p, 0, none⟩) := by
  show (lkM ms id).map _ = _
  rw [Option.map_map]; rfl
theorem fMM_set (ms : List FM) (id : Int) (s : FSt) : fMM (setM ms id s) = fMM ms := by
  funext v
  cases v with
  | int k j =>
    cases k with
    | i64 => rw [fMM_eq, fMM_eq, lkM_set]
    | _ => rfl
  | _ => rfl
theorem lkM_split : ∀ {ms : List FM} {id : Int} {x : FM}, lkM ms id = some x → ∃ a b, ms = a ++ x :: b ∧ x.g.id = id ∧ ∀ s, setM ms id s = a ++ { x with g := { x.g with s := s } } :: b
  | [], _, _, h => by cases h
  | y :: l, id, x, h => by
    rw [lkM_cons] at h
    by_cases hy : y.g.id = id
    · rw [if_pos hy] at h
      cases h
      exact ⟨[], l, rfl, hy, fun s => by unfold setM; rw [if_pos hy]; rfl⟩
    · rw [if_neg hy] at h
      obtain ⟨a, b, h1, h2, h3⟩ := lkM_split h
      exact ⟨y :: a, b, by rw [h1]; rfl, h2, fun s => by unfold setM; rw [if_neg hy, h3]; rfl⟩
theorem FB_app (T : TypeId) (a b : List FM) : FB T (a ++ b) = FB T a ++ FB T b := List.map_append
theorem FB_mid (T : TypeId) (a b : List FM) (x : FM) : FB T (a ++ x :: b) = FB T a ++ (x.p, Obj.cells (fxM x).toArray T) :: FB T b := by rw [FB_app]; rfl
theorem fOL_at {L : List EN} {id : Int} : fOL L (.int .i64 id) = (lkL L id).map fun x => orV x.1 x.2 := rfl
theorem fOL_set {L : List EN} {y : EN} (h : (lkL L y.1.id).isSome = true) : fupd (fOL L) (.int .i64 y.1.id) (orV y.1 y.2) = fOL (setL L y) := by
  funext v
  by_cases hv : v = .int .i64 y.1.id
  · subst hv
    rw [fupd_self, fOL_at, lkL_set, if_pos rfl]
    obtain ⟨e, he⟩ := Option.isSome_iff_exists.1 h
    rw [he]; rfl
  · rw [fupd_ne hv]
    cases v with
    | int k j =>
      cases k with
      | i64 =>
        rw [fOL_at, fOL_at, lkL_set, if_neg (fun e => hv (by rw [e]))]
      | _ => rfl
    | _ => rfl
theorem fOL_ins {L : List EN} {y : EN} (h : lkL L y.1.id = none) : fupd (fOL L) (.int .i64 y.1.id) (orV y.1 y.2) = fOL (insL L y) := by
  funext v
  by_cases hv : v = .int .i64 y.1.id
  · subst hv
    rw [fupd_self, fOL_at, lkL_ins L y _ h, if_pos rfl]; rfl
  · rw [fupd_ne hv]
    cases v with
    | int k j =>
      cases k with
      | i64 =>
        rw [fOL_at, fOL_at, lkL_ins L y _ h, if_neg (fun e => hv (by rw [e]))]
      | _ => rfl
    | _ => rfl
theorem fOL_nil : fOL [] = fun _ => none := by
  funext v
  cases v with
  | int k j => cases k <;> rfl
  | _ => rfl
end Go.PK

namespace Go.PK
open Go Go.RowKit Go.Maps
structure MapC (P : Program) (kt : TypeId) (es : Array MapEntry) (ck : Nat) (f : Value → Option Value) : Prop where
  f : MapF P kt es f
  born : ∀ (i : Nat) (e : MapEntry), es[i]? = some e → e.born < ck
  once : ∀ (i j : Nat) (e e' : MapEntry), es[i]? = some e → es[j]? = some e' → e.born = e'.born → i = j
theorem MapC.empty {P : Program} {kt : TypeId} : MapC P kt #[] 0 (fun _ => none) := ⟨MapF.empty, by simp, by simp⟩
section
variable {P : Program} {kt : TypeId} {es : Array MapEntry} {ck : Nat} {f : Value → Option Value}
theorem MapC.push (h : MapC P kt es ck f) {x v : Value} {lx : Lit} (hx : keyOf P kt x = some lx) (hf : f x = none) : MapC P kt (es.push ⟨x, v, ck⟩) (ck + 1) (fupd f x v) where
  f := h.f.push hx hf
  born := fun i e he => by
    rw [Array.getElem?_push] at he
    split at he
    · cases he; exact Nat.lt_succ_self _
    · exact Nat.lt_succ_of_lt (h.born i e he)
  once := fun i j e e' h1 h2 hb => by
    rw [Array.getElem?_push] at h1 h2
    split at h1 <;> split at h2
    · subst_vars; rfl
    · cases h1; have := h.born j e' h2; dsimp only at hb; omega
    · cases h2; have := h.born i e h1; dsimp only at hb; omega
    · exact h.once i j e e' h1 h2 hb
theorem MapC.put (h : MapC P kt es ck f) {x v : Value} {lx : Lit} {j : Nat} {e0 : MapEntry} (hx : keyOf P kt x = some lx) (h0 : es[j]? = some e0) (hk0 : e0.key = x) :
    MapC P kt (es.modify j fun e => { e with key := x, val := v }) ck (fupd f x v) where
  f := h.f.put hx h0 hk0
  born := fun i e he => by
    rw [Array.getElem?_modify] at he
    split at he
    · subst_vars
      rw [h0] at he
      cases he
      exact h.born _ e0 h0
    · exact h.born i e he
  once := fun i j' e e' h1 h2 hb => by
    rw [Array.getElem?_modify] at h1 h2
    have key : ∀ k (d : MapEntry), (if j = k then (es[k]?).map (fun e => { e with key := x, val := v }) else es[k]?) = some d → ∃ d', es[k]? = some d' ∧ d'.born = d.born := fun k d hd => by
      split at hd
      · subst_vars
        rw [h0] at hd
        cases hd
        exact ⟨e0, h0, rfl⟩
      · exact ⟨d, hd, rfl⟩
    obtain ⟨d1, a1, a2⟩ := key i e h1
    obtain ⟨d2, b1, b2⟩ := key j' e' h2
    exact h.once i j' d1 d2 a1 b1 (by rw [a2, b2, hb])
theorem MapC.stamped (h : MapC P kt es ck f) : MapKept.Stamped es ck := by
  have key : ∀ {β : Type} (g : MapEntry → β), (∀ (i j : Nat) (e e' : MapEntry), es[i]? = some e → es[j]? = some e' → g e = g e' → i = j) → (es.toList.map g).Nodup := fun g hg => by
    refine List.pairwise_iff_getElem.2 fun i j hi hj hij heq => ?_
    rw [List.length_map] at hi hj
    rw [List.getElem_map, List.getElem_map] at heq
    have := hg i j _ _ (by rw [← Array.getElem?_toList]; exact List.getElem?_eq_getElem hi) (by rw [← Array.getElem?_toList]; exact List.getElem?_eq_getElem hj) heq
    omega
  refine ⟨fun x hx => ?_, key _ h.once, key _ h.f.one⟩
  obtain ⟨i, hi⟩ := List.getElem?_of_mem hx
  exact h.born i x (by simpa using hi)
end
section
variable {P : Program} {n : Nat} {l : List (Nat × Value)} {own : List (Nat × Obj)} {ro : List Snap} {lops : List Oper} {Q : Exit → Act → World → Prop} {K : Act → World → Prop}
  {rest : List (Option Bool × Nat)} {i d b : Nat} {ty t kt e : TypeId} {pos : String} {af : Array Edge} {x y m : Operand} {es : Array MapEntry} {clock : Nat} {f : Value → Option Value}
theorem x_mapUpdateC {u v : Value} {lx : Lit} (l1 : List (Nat × Obj)) {l2 : List (Nat × Obj)} (ho : lops[i]? = some ⟨none, .mapUpdate t m x y, ty, pos, af, none⟩) (hm : ev l m = some (.map (some b))) (hx : ev l x = some u) (hy : ev l y = some v)
    (ht : P.underlying t = some (.map kt e)) (KK : Keyed P kt) (hkey : keyOf P kt u = some lx) (hown : own = l1 ++ (b, .map es clock) :: l2) (hf : MapC P kt es clock f)
    (h : ∀ es' clock', MapC P kt es' clock' (fupd f u v) → WX P lops.toArray Q K rest n l (l1 ++ (b, .map es' clock') :: l2) ro) : WX P lops.toArray Q K ((none, i) :: rest) n l own ro := by
  subst hown
  intro a w ha hw
  have hw1 := go_none (lops := lops) (n := n) (l := l) (o := ⟨none, .mapUpdate t m x y, ty, pos, af, none⟩) rfl a ha
  simp only [wpX, List.getElem?_toArray, ho]
  intro w' hl
  rw [if_pos hw1]
  have hM := hw.later hl
  have hg : w'.heap[b]? = some (.map es clock) := hM.own_at (b, _) (by simp)
  have hrun : ∃ es' clock', MapC P kt es' clock' (fupd f u v) ∧ (Instr.mapUpdate t (.map (some b)) u v).run P w' = .ok () { w' with heap := w'.heap.setIfInBounds b (.map es' clock') } := by
    rcases hf.f.find KK hkey w' with ⟨h1, h2⟩ | ⟨j, e0, h1, h2, h3, h4⟩
    · exact ⟨_, clock + 1, hf.push (v := v) hkey h2, by simp [Instr.mapUpdate, run_underlying ht, MapKept.run_getObj_map hg, KK.check w' false hkey, h1, MapKept.run_setObj_map _ hg, Result.andThen]⟩
    · refine ⟨_, clock, hf.put (v := v) hkey h2 h3, ?_⟩
      have hs : (Instr.keyThatStays (((es[j]?).map (·.key)).getD u) u).run P w' = .ok u w' := by
        rw [h2]; simp only [Option.map_some, Option.getD_some, h3]; exact KK.stays w' hkey
      simp only [Instr.mapUpdate, Sem.run_bind, run_underlying ht, Result.andThen_ok, MapKept.run_getObj_map hg, KK.check w' false hkey, h1, hs, MapKept.run_setObj_map _ hg]
  obtain ⟨es', clock', hf', hr⟩ := hrun
  unfold Oper.wp
  have hr2 : (execOp a.eval ⟨none, .mapUpdate t m x y, ty, pos, af, none⟩).run P w' = .ok .skip { w' with heap := w'.heap.setIfInBounds b (.map es' clock') } := by
    simp only [execOp, ha.eval hm, ha.eval hx, ha.eval hy, Sem.run_bind, hr, Result.andThen_ok, Sem.run_pure]
  rw [hr2]
  show wpX P lops.toArray Q K rest (a.put none undef) _
  exact h es' clock' hf' a _ ha (hM.turn (turned_obj hg))
end
theorem wf_in {n : Int} (h : in64 n) : (Lit.int .i64 n).wf = true := by
  unfold in64 at h
  simp only [Lit.wf, Bool.and_eq_true, decide_eq_true_eq]
  have h1 : IntKind.i64.min = -9223372036854775808 := by decide
  have h2 : IntKind.i64.max = 9223372036854775807 := by decide
  omega
def rnil : Value → Option (DataW Unit × List MemPlace) := fun _ => some (.nil, [])
def kInt : Value → Int
  | .int _ n => n
  | _ => 0
def keysIs (f : Value → Option Value) (ids : List Int) : Prop := ids.Nodup ∧ ∀ v, (f v).isSome = true ↔ ∃ id ∈ ids, v = .int .i64 id
section
variable {P : Program} {kt : TypeId} {es : Array MapEntry} {ck : Nat} {f : Value → Option Value} {ids : List Int}
theorem MapC.mem (h : MapC P kt es ck f) (v : Value) : (∃ e ∈ es.toList, e.key = v) ↔ (f v).isSome = true := by
  constructor
  · rintro ⟨e, he, rfl⟩
    obtain ⟨i, hi⟩ := List.getElem?_of_mem he
    rw [h.f.val i e (by simpa using hi)]; rfl
  · intro hv
    obtain ⟨u, hu⟩ := Option.isSome_iff_exists.1 hv
    obtain ⟨i, e, h1, h2, _⟩ := h.f.has v u hu
    exact ⟨e, List.mem_of_getElem? (i := i) (by simpa using h1), h2⟩
theorem MapC.keys (h : MapC P kt es ck f) (hk : keysIs f ids) : (es.toList.map fun e => kInt e.key).Perm ids := by
  have hnd := h.stamped.2.2
  have hint : ∀ e ∈ es.toList, ∃ id ∈ ids, e.key = .int .i64 id := fun e he => (hk.2 e.key).1 ((h.mem e.key).1 ⟨e, he, rfl⟩)
  refine (List.perm_ext_iff_of_nodup ?_ hk.1).2 fun z => ?_
  · have h1 : es.toList.Pairwise (fun a b => a.key ≠ b.key) := List.pairwise_map.1 hnd
    refine List.pairwise_map.2 (h1.imp_of_mem fun {a b} ha hb hne he => hne ?_)
    obtain ⟨x, _, hx⟩ := hint a ha
    obtain ⟨y, _, hy⟩ := hint b hb
    rw [hx, hy] at he ⊢
    exact congrArg _ he
  · rw [List.mem_map]
    constructor
    · rintro ⟨e, he, rfl⟩
      obtain ⟨x, hx, hk⟩ := hint e he
      rw [hk]; exact hx
    · intro hz
      obtain ⟨e, he, hk⟩ := (h.mem (.int .i64 z)).2 ((hk.2 _).2 ⟨z, hz, rfl⟩)
      exact ⟨e, he, by rw [hk]; rfl⟩
theorem MapC.size (h : MapC P kt es ck f) (hk : keysIs f ids) : es.size = ids.length := by
  have := (h.keys hk).length_eq
  rwa [List.length_map, Array.length_toList] at this
theorem MapC.owns (h : MapC P kt es ck f) (hk : keysIs f ids) (hkt : P.underlying kt = some (.int .i64)) (hn : ids.length ≤ maxLen) {w : World} {b : Nat} (hb : w.heap[b]? = some (.map es ck)) :
    ∃ D : DataW Unit, w.ownsMap P kt rnil b es.size D ∧ Maps.size D = ids.length ∧ (intKeys D).Perm ids := by
  have hr : ∀ e ∈ es.toList, ∃ (id : Int), keyOf P kt e.key = some (.int .i64 id) ∧ kInt e.key = id := fun e he => by
    obtain ⟨i, hi⟩ := List.getElem?_of_mem he
    obtain ⟨kl, hkl⟩ := h.f.key i e (by simpa using hi)
    obtain ⟨z, hz1, hz2, _⟩ := Maps.keyOf_i64 hkt hkl
    exact ⟨z, by rw [hkl, hz2], by rw [hz1]; rfl⟩
  have hrd : ∀ e ∈ es.toList, ∃ y, Go.WideElems.rd P kt rnil e = some y ∧ intOf y.1 = kInt e.key := fun e he => by
    obtain ⟨id, h1, h2⟩ := hr e he
    exact ⟨(.int .i64 id, .nil), by unfold Go.WideElems.rd; rw [h1]; rfl, h2.symm⟩
  refine ⟨.map ((es.toList.map (Go.WideElems.rg P kt rnil)).foldr DataW.insert []), ⟨es, ck, hb, ⟨by rw [h.size hk]; exact hn, h.stamped, fun e he => ?_⟩, Nat.le_refl _, rfl⟩, ?_, ?_⟩
  · obtain ⟨y, hy, _⟩ := hrd e he
    exact ⟨y, hy⟩
  · show List.length _ = _
    rw [length_sorted, List.length_map, Array.length_toList, h.size hk]
  · refine List.Perm.trans ?_ (h.keys hk)
    show ((es.toList.map (Go.WideElems.rg P kt rnil)).foldr DataW.insert [] |>.map fun p => intOf p.1).Perm _
    refine ((WideShapes.sorted_perm _).map _).trans ?_
    rw [List.map_map]
    refine List.Perm.of_eq (List.map_congr_left fun e he => ?_)
    obtain ⟨y, h1, h2⟩ := hrd e he
    show intOf (Go.WideElems.rg P kt rnil e).1 = _
    unfold Go.WideElems.rg
    rw [h1]
    exact h2
end
theorem sort_ids {ss ids : List Int} (h : ss.Perm ids) (hs : ids.Pairwise (· < ·)) : ss.mergeSort (fun x y => decide (x ≤ y)) = ids := by
  have tr : ∀ a b c : Int, leI a b = true → leI b c = true → leI a c = true := fun a b c h1 h2 => by simp only [leI, decide_eq_true_eq] at *; exact Int.le_trans h1 h2
  have to : ∀ a b : Int, (leI a b || leI b a) = true := fun a b => by simp only [leI, Bool.or_eq_true, decide_eq_true_eq]; exact Int.le_total a b
  refine List.Perm.eq_of_pairwise (le := fun a b => leI a b = true) (fun a b _ _ h1 h2 => ?_) (List.pairwise_mergeSort tr to ss) (hs.imp fun {a b} h => by simp only [leI, decide_eq_true_eq]; omega) ((List.mergeSort_perm ss leI).trans h)
  simp only [leI, decide_eq_true_eq] at h1 h2
  omega
theorem owns_rd {w w' : World} {e : TypeId} {v : Value} {ids : List Int} (h : w'.ownsRow w.heap.size e 1 v ids.length (ids.map (Value.int .i64))) (hin : ∀ n ∈ ids, in64 n) : sliceRd tyI (fun b => w.heap.size ≤ b) w' v ids := by
  obtain ⟨hl, ⟨rfl, hn⟩ | ⟨g, cap, cur, rfl, hb, hg, hc, hm, hsz, ht⟩⟩ := h
  · have : ids = [] := List.eq_nil_of_length_eq_zero hn
    subst this
    exact ⟨none, 0, rfl, Nat.le_refl _, Nat.zero_le _, fun h => absurd h (Nat.not_lt_zero _)⟩
  · refine ⟨_, cap, rfl, hc, by unfold maxLen at hm; omega, fun _ => ⟨g, 0, rfl, hb, heap_lt hg, fun j hj => ⟨[.int .i64 ids[j]], fun i hi => ?_, ?_⟩⟩⟩
    · have hi0 : i = 0 := by simpa using hi
      subst hi0
      rw [cell_of_row w' g _ cur e (0, 0) hg]
      have h1 : (cur.toList.take (ids.length * 1))[j]? = (ids.map (Value.int .i64))[j]? := by rw [ht]
      rw [List.getElem?_take, if_pos (by omega), List.getElem?_map, List.getElem?_eq_getElem hj] at h1
      show cur[0 + j * 1 + 0]? = _
      rw [show 0 + j * 1 + 0 = j by omega, ← Array.getElem?_toList, h1]; rfl
    · exact ⟨rfl, hin _ (List.getElem_mem hj)⟩
end Go.PK

namespace Go.PK
open Go Go.RowKit Go.Maps
theorem fOL_keys {L : List EN} (hs : srtL L) : keysIs (fOL L) (L.map (·.1.id)) := by
  refine ⟨List.pairwise_map.2 (hs.imp fun {a b} h => by omega), fun v => ?_⟩
  cases v with
  | int k j =>
    cases k with
    | i64 =>
      rw [fOL_at, Option.isSome_map]
      constructor
      · intro h
        obtain ⟨e, he⟩ := Option.isSome_iff_exists.1 h
        obtain ⟨h1, h2⟩ := lkL_mem he
        exact ⟨j, List.mem_map.2 ⟨e, h1, h2⟩, rfl⟩
      · rintro ⟨id, hid, hv⟩
        injection hv with _ hv
        subst hv
        cases hl : lkL L j with
        | none =>
          obtain ⟨e, h1, h2⟩ := List.mem_map.1 hid
          exact absurd h2 (lkL_none hl e h1)
        | some e => rfl
    | _ => exact ⟨fun h => (by cases h), fun ⟨id, _, h⟩ => (by cases h)⟩
  | _ => exact ⟨fun h => (by cases h), fun ⟨id, _, h⟩ => (by cases h)⟩
theorem srt_map {L : List EN} (h : srtL L) : (L.map (·.1.id)).Pairwise (· < ·) := by
  unfold srtL at h
  exact List.pairwise_map.2 h
theorem lkM_none : ∀ {ms : List FM} {id : Int}, lkM ms id = none → ∀ x ∈ ms, x.g.id ≠ id := fun {ms id} h x hx hi => by
  have := List.find?_eq_none.1 h x hx
  exact this (decide_eq_true hi)
theorem fMM_keys {ms : List FM} (hs : (ms.map (·.g.id)).Pairwise (· < ·)) : keysIs (fMM ms) (ms.map (·.g.id)) := by
  refine ⟨hs.imp fun {a b} h => by omega, fun v => ?_⟩
  cases v with
  | int k j =>
    cases k with
    | i64 =>
      show ((lkM ms j).map _).isSome = true ↔ _
      rw [Option.isSome_map]
      constructor
      · intro h
        obtain ⟨e, he⟩ := Option.isSome_iff_exists.1 h
        obtain ⟨a, b, h1, h2, _⟩ := lkM_split he
        exact ⟨j, List.mem_map.2 ⟨e, by rw [h1]; simp, h2⟩, rfl⟩
      · rintro ⟨id, hid, hv⟩
        injection hv with _ hv
        subst hv
        cases hl : lkM ms j with
        | none =>
          obtain ⟨e, h1, h2⟩ := List.mem_map.1 hid
          exact absurd h2 (lkM_none hl e h1)
        | some e => rfl
    | _ => exact ⟨fun h => (by cases h), fun ⟨id, _, h⟩ => (by cases h)⟩
  | _ => exact ⟨fun h => (by cases h), fun ⟨id, _, h⟩ => (by cases h)⟩
def enI (e : EN) : List Int := [e.1.id, e.1.fund, e.1.src, e.1.num, e.1.copies, e.1.price, e.1.prom, e.1.paid, e.1.st, e.2]
def encL (L : List EN) : List Int := L.flatMap enI
def fnI (f : FG) : List Int := [f.id, f.par, f.s.al, f.s.sp, f.s.en]
def encF (fs : List FG) : List Int := fs.flatMap fnI
theorem flat_snoc {α β : Type} (f : α → List β) {L : List α} {k : Nat} (hk : k < L.length) : (L.take (k + 1)).flatMap f = (L.take k).flatMap f ++ f L[k] := by
  rw [List.take_succ_eq_append_getElem hk, List.flatMap_append, List.flatMap_cons, List.flatMap_nil, List.append_nil]
theorem encL_len : ∀ (L : List EN), (encL L).length = L.length * 10
  | [] => rfl
  | e :: l => by show (enI e ++ encL l).length = _; rw [List.length_append, encL_len l, List.length_cons]; show 10 + _ = _; omega
theorem encF_len : ∀ (L : List FG), (encF L).length = L.length * 5
  | [] => rfl
  | e :: l => by show (fnI e ++ encF l).length = _; rw [List.length_append, encF_len l, List.length_cons]; show 5 + _ = _; omega
theorem enI_in {e : EN} (h : enN e) : ∀ n ∈ enI e, in64 n := by
  obtain ⟨h, h2⟩ := h
  unfold ordN at h
  unfold enI in64
  simp only [List.forall_mem_cons, List.not_mem_nil, false_imp_iff, implies_true, and_true]
  omega
theorem encL_in {L : List EN} (h : ∀ e ∈ L, enN e) : ∀ n ∈ encL L, in64 n := fun n hn => by
  obtain ⟨e, he, h1⟩ := List.mem_flatMap.1 hn
  exact enI_in (h e he) n h1
def fgN (f : FG) : Prop := (1 ≤ f.id ∧ f.id ≤ 9223372036854775807) ∧ (0 ≤ f.par ∧ f.par ≤ 9223372036854775807) ∧ fundOK f.s
theorem fnI_in {f : FG} (h : fgN f) : ∀ n ∈ fnI f, in64 n := by
  unfold fgN fundOK at h
  unfold fnI in64
  simp only [List.forall_mem_cons, List.not_mem_nil, false_imp_iff, implies_true, and_true]
  omega
theorem encF_in {L : List FG} (h : ∀ e ∈ L, fgN e) : ∀ n ∈ encF L, in64 n := fun n hn => by
  obtain ⟨e, he, h1⟩ := List.mem_flatMap.1 hn
  exact fnI_in (h e he) n h1
theorem ids_in {L : List EN} (h : ∀ e ∈ L, enN e) : ∀ n ∈ L.map (·.1.id), in64 n := fun n hn => by
  obtain ⟨e, he, rfl⟩ := List.mem_map.1 hn
  have := (h e he).1
  unfold ordN at this
  unfold in64
  omega
theorem lkL_at {L : List EN} (hs : srtL L) {k : Nat} (hk : k < L.length) : lkL L L[k].1.id = some L[k] := by
  cases h : lkL L L[k].1.id with
  | none => exact absurd rfl (lkL_none h _ (List.getElem_mem hk))
  | some e =>
    obtain ⟨h1, h2⟩ := lkL_mem h
    obtain ⟨j, hj, rfl⟩ := List.getElem_of_mem h1
    have hp := List.pairwise_iff_getElem.1 hs
    rcases Nat.lt_trichotomy j k with h | h | h
    · have := hp j k hj hk h; omega
    · subst h; rfl
    · have := hp k j hk hj h; omega
theorem lkM_at {ms : List FM} (hs : (ms.map (·.g.id)).Pairwise (· < ·)) {k : Nat} (hk : k < ms.length) : lkM ms ms[k].g.id = some ms[k] := by
  cases h : lkM ms ms[k].g.id with
  | none => exact absurd rfl (lkM_none h _ (List.getElem_mem hk))
  | some e =>
    obtain ⟨a, b, h1, h2, _⟩ := lkM_split h
    obtain ⟨j, hj, rfl⟩ := List.getElem_of_mem (show e ∈ ms by rw [h1]; simp)
    have hp := List.pairwise_iff_getElem.1 (List.pairwise_map.1 hs)
    rcases Nat.lt_trichotomy j k with h | h | h
    · have := hp j k hj hk h; omega
    · subst h; rfl
    · have := hp k j hk hj h; omega
end Go.PK

namespace Go.PK
open Go Go.RowKit Go.Maps
def trm (id : Int) (e : EN) : Int := if e.1.fund = id then resP e.1 else 0
def sumR : List EN → Int → Int
  | [], _ => 0
  | e :: l, id => trm id e + sumR l id
theorem sumR_ins : ∀ (L : List EN) (y : EN) (id : Int), sumR (insL L y) id = sumR L id + trm id y
  | [], y, id => by unfold insL sumR; show trm id y + sumR [] id = sumR [] id + _; omega
  | x :: l, y, id => by
    unfold insL
    split
    · show trm id x + sumR (insL l y) id = trm id x + sumR l id + _
      rw [sumR_ins l]; omega
    · show trm id y + (trm id x + sumR l id) = trm id x + sumR l id + _
      omega
theorem sumR_set : ∀ (L : List EN) (y e : EN) (id : Int), lkL L y.1.id = some e → sumR (setL L y) id = sumR L id - trm id e + trm id y
  | [], y, e, id, h => by cases h
  | x :: l, y, e, id, h => by
    rw [lkL_cons] at h
    unfold setL
    by_cases hx : x.1.id = y.1.id
    · rw [if_pos hx] at h ⊢
      injection h with h
      subst h
      show trm id y + sumR l id = trm id x + sumR l id - trm id x + _
      omega
    · rw [if_neg hx] at h ⊢
      show trm id x + sumR (setL l y) id = trm id x + sumR l id - _ + _
      rw [sumR_set l y e id h]; omega
def balO (x : Ord) : Prop := x.paid ≤ x.prom ∧ x.prom ≤ x.copies ∧ (x.st = -1 → x.prom = x.paid) ∧ (x.st ≠ -1 → x.paid ≤ x.st ∧ x.st ≤ x.prom)
structure INV (s : SG) : Prop where
  ok : SGok s
  bal : ∀ e ∈ s.L, balO e.1
  en : ∀ id f, lkF s.fs id = some f → f.en = sumR s.L id
  has : ∀ e ∈ s.L, (lkF s.fs e.1.fund).isSome = true
theorem res_nn {x : Ord} (h : ordN x) (hb : balO x) : 0 ≤ resP x := by
  unfold resP
  exact Int.mul_nonneg (by have := hb.1; omega) h.1.1
theorem trm_nn {e : EN} {id : Int} (h : ordN e.1) (hb : balO e.1) : 0 ≤ trm id e := by
  unfold trm
  split
  · exact res_nn h hb
  · exact Int.le_refl _
theorem sumR_nn : ∀ {L : List EN} (id : Int), (∀ e ∈ L, ordN e.1 ∧ balO e.1) → 0 ≤ sumR L id
  | [], _, _ => Int.le_refl _
  | x :: l, id, h => by
    have h1 := trm_nn (id := id) (h x (.head _)).1 (h x (.head _)).2
    have h2 := sumR_nn (L := l) id fun e he => h e (.tail _ he)
    show 0 ≤ trm id x + sumR l id
    omega
theorem sumR_ge : ∀ {L : List EN} {e : EN} (id : Int), e ∈ L → (∀ e ∈ L, ordN e.1 ∧ balO e.1) → trm id e ≤ sumR L id
  | x :: l, e, id, he, h => by
    have h1 := trm_nn (id := id) (h x (.head _)).1 (h x (.head _)).2
    have h2 := sumR_nn (L := l) id fun e he => h e (.tail _ he)
    show _ ≤ trm id x + sumR l id
    rcases List.mem_cons.1 he with rfl | he
    · omega
    · have := sumR_ge (L := l) id he fun e he => h e (.tail _ he)
      omega
theorem INV.both {s : SG} (h : INV s) : ∀ e ∈ s.L, ordN e.1 ∧ balO e.1 := fun e he => ⟨(h.ok.L e he).1, h.bal e he⟩
theorem INV.set {s : SG} (h : INV s) {x y : Ord} {first : Int} {fs : List FG} (hl : lkL s.L y.id = some (x, first)) (hf : y.fund = x.fund) (hok : SGok ⟨fs, s.tol, setL s.L (y, first)⟩) (hb : balO y)
    (hen : ∀ id f, lkF fs id = some f → ∃ g, lkF s.fs id = some g ∧ f.en = g.en + (if id = x.fund then resP y - resP x else 0)) (hhas : ∀ id, (lkF fs id).isSome = (lkF s.fs id).isSome) : INV ⟨fs, s.tol, setL s.L (y, first)⟩ := by
  refine ⟨hok, fun e he => ?_, fun id f hlf => ?_, fun e he => ?_⟩
  · rcases setL_mem he with he | rfl
    · exact h.bal e he
    · exact hb
  · obtain ⟨g, h1, h2⟩ := hen id f hlf
    show _ = sumR (setL s.L (y, first)) id
    rw [sumR_set s.L (y, first) (x, first) id hl, h2, h.en id g h1]
    unfold trm
    dsimp only
    rw [hf]
    by_cases hi : x.fund = id
    · rw [if_pos hi.symm, if_pos hi, if_pos hi]; omega
    · rw [if_neg (fun e => hi e.symm), if_neg hi, if_neg hi]; omega
  · rw [hhas]
    rcases setL_mem he with he | rfl
    · exact h.has e he
    · show (lkF s.fs y.fund).isSome = true
      rw [hf]
      exact h.has _ (lkL_mem hl).1
theorem post_has (R : FSt → Int → Int × FSt) (fs : List FG) (id n j : Int) : (lkF (postG R fs id n).2 j).isSome = (lkF fs j).isSome := by
  unfold postG
  cases hl : lkF fs id with
  | none => rfl
  | some f =>
    dsimp only
    rw [lkF_set]
    split
    · rename_i h; rw [h, hl]; rfl
    · rfl
theorem post_en {R : FSt → Int → Int × FSt} {d : Int} {fs : List FG} {id n : Int} (hR : ∀ f, (R f n).1 = 0 → (R f n).2.en = f.en + d) (h0 : (postG R fs id n).1 = 0) :
    ∀ j f, lkF (postG R fs id n).2 j = some f → ∃ g, lkF fs j = some g ∧ f.en = g.en + (if j = id then d else 0) := by
  intro j f hj
  unfold postG at hj h0
  cases hl : lkF fs id with
  | none => rw [hl] at h0; cases h0
  | some g =>
    rw [hl] at hj h0
    dsimp only at hj h0
    rw [lkF_set] at hj
    by_cases hji : j = id
    · rw [if_pos hji, hl] at hj
      injection hj with hj
      subst hj
      exact ⟨g, by rw [hji, hl], by rw [if_pos hji]; exact hR g h0⟩
    · rw [if_neg hji] at hj
      exact ⟨f, hj, by rw [if_neg hji, Int.add_zero]⟩
theorem encP_0 {f : FSt} {n : Int} (h : (encP f n).1 = 0) : (encP f n).2.en = f.en + n ∧ 0 ≤ n ∧ n ≤ f.free := by
  unfold encP at h ⊢
  by_cases h1 : n < 0
  · rw [if_pos h1] at h; cases h
  · rw [if_neg h1] at h ⊢
    by_cases h2 : n > f.free
    · rw [if_pos h2] at h; cases h
    · rw [if_neg h2]; exact ⟨rfl, by omega, by omega⟩
theorem relP_0 {f : FSt} {n : Int} (h : (relP f n).1 = 0) : (relP f n).2.en = f.en + -n ∧ 0 ≤ n ∧ n ≤ f.en := by
  unfold relP at h ⊢
  by_cases h1 : n < 0
  · rw [if_pos h1] at h; cases h
  · rw [if_neg h1] at h ⊢
    by_cases h2 : n > f.en
    · rw [if_pos h2] at h; cases h
    · rw [if_neg h2]; exact ⟨rfl, by omega, by omega⟩
theorem move_en {fs : List FG} {id b n : Int} (h0 : (moveG fs id b n).1 = 0) : ∀ j f, lkF (moveG fs id b n).2 j = some f → ∃ g, lkF fs j = some g ∧ f.en = g.en + (if j = id then n - b else 0) := by
  unfold moveG at h0 ⊢
  by_cases hn : n > b
  · rw [if_pos hn] at h0 ⊢
    exact post_en (fun f hf => (encP_0 hf).1) h0
  · rw [if_neg hn] at h0 ⊢
    refine post_en (fun f hf => ?_) h0
    rw [(relP_0 hf).1]; omega
theorem move_has (fs : List FG) (id b n j : Int) : (lkF (moveG fs id b n).2 j).isSome = (lkF fs j).isSome := by
  unfold moveG
  split
  · exact post_has _ _ _ _ _
  · exact post_has _ _ _ _ _
theorem INV.place {s : SG} (h : INV s) (x : Ord) : INV (placeG s x).2 := by
  have hok := place_ok h.ok x
  unfold placeG at hok ⊢
  by_cases h1 : writB x = false
  · rw [if_pos h1]; exact h
  rw [if_neg h1] at hok ⊢
  by_cases h2 : (lkL s.L x.id).isSome = true
  · rw [if_pos h2]; exact h
  rw [if_neg h2] at hok ⊢
  by_cases h3 : (postG encP s.fs x.fund (x.copies * x.price)).1 ≠ 0
  · rw [if_pos h3]; exact h
  rw [if_neg h3] at hok ⊢
  have h0 := Decidable.of_not_not h3
  have hw := (writ_ordN (x := x) (by simpa using h1)).1
  have hre : resP (placedO x) = x.copies * x.price := by show (x.copies - 0) * x.price = _; rw [Int.sub_zero]
  refine ⟨hok, fun e he => ?_, fun id f hlf => ?_, fun e he => ?_⟩
  · rcases insL_mem.1 he with he | rfl
    · exact h.bal e he
    · unfold ordN placedO at hw
      unfold balO placedO
      dsimp only at hw ⊢
      omega
  · obtain ⟨g, h4, h5⟩ := post_en (fun f hf => (encP_0 hf).1) h0 id f hlf
    show _ = sumR (insL s.L (placedO x, x.price)) id
    rw [sumR_ins, h5, h.en id g h4]
    unfold trm
    show _ = sumR s.L id + (if x.fund = id then resP (placedO x) else 0)
    rw [hre]
    by_cases hi : x.fund = id
    · rw [if_pos hi.symm, if_pos hi]
    · rw [if_neg (fun e => hi e.symm), if_neg hi]
  · show (lkF (postG encP s.fs x.fund (x.copies * x.price)).2 e.1.fund).isSome = true
    rw [post_has]
    rcases insL_mem.1 he with he | rfl
    · exact h.has e he
    · show (lkF s.fs x.fund).isSome = true
      unfold postG at h0
      cases hl : lkF s.fs x.fund with
      | none => rw [hl] at h0; cases h0
      | some f => rfl
theorem INV.answer {s : SG} (h : INV s) {a : Ord} {e : Int} (k1 : 0 ≤ a.price ∧ a.price ≤ 999999999) (k2 : 0 ≤ a.copies ∧ a.copies ≤ 9999) : INV (answerG s a e).2 := by
  have hok := answer_ok h.ok (e := e) k1 k2
  unfold answerG at hok ⊢
  by_cases he : e ≠ 0
  · rw [if_pos he]; exact h
  rw [if_neg he] at hok ⊢
  cases hl : lkL s.L a.id with
  | none => exact h
  | some z =>
    obtain ⟨x, first⟩ := z
    rw [hl] at hok
    dsimp only at hok ⊢
    by_cases h1 : x.st ≠ 0 ∨ x.paid ≠ 0
    · rw [if_pos h1]; exact h
    rw [if_neg h1] at hok ⊢
    by_cases h2 : (x.fund ≠ a.fund ∨ ¬(x.src = a.src ∧ x.num = a.num)) ∨ a.copies > x.copies
    · rw [if_pos h2]; exact h
    rw [if_neg h2] at hok ⊢
    by_cases h3 : ¬nearP s.tol a.price first
    · rw [if_pos h3]; exact h
    rw [if_neg h3] at hok ⊢
    by_cases h4 : (moveG s.fs x.fund (resP x) (resP (answO x a))).1 ≠ 0
    · rw [if_pos h4]; exact h
    rw [if_neg h4] at hok ⊢
    have h0 := Decidable.of_not_not h4
    have hid := (lkL_mem hl).2
    have hb := h.bal _ (lkL_mem hl).1
    refine h.set (x := x) (y := answO x a) (show lkL s.L x.id = _ by rw [show x.id = a.id from hid]; exact hl) rfl hok ?_ (fun j f hj => move_en h0 j f hj) (fun j => move_has _ _ _ _ _)
    unfold balO answO
    dsimp only
    omega
def payR (tol : Int) : List FG → List EN → List Ord → Int × List FG × List EN
  | fs, L, [] => (0, fs, L)
  | fs, L, ln :: ls =>
    match lkL L ln.id with
    | none => (32, fs, L)
    | some (x, first) =>
      if checkP tol ln (some (x, first)) ≠ 0 then (checkP tol ln (some (x, first)), fs, L)
      else if (postG relP fs x.fund (ln.copies * x.price)).1 ≠ 0 then ((postG relP fs x.fund (ln.copies * x.price)).1, fs, L)
      else if (postG spdP (postG relP fs x.fund (ln.copies * x.price)).2 x.fund (ln.copies * ln.price)).1 ≠ 0 then ((postG spdP (postG relP fs x.fund (ln.copies * x.price)).2 x.fund (ln.copies * ln.price)).1, fs, L)
      else payR tol (postG spdP (postG relP fs x.fund (ln.copies * x.price)).2 x.fund (ln.copies * ln.price)).2 (setL L ({ x with paid := x.paid + ln.copies }, first)) ls
def invoiceR (s : SG) (ls : List Ord) (e : Int) : Int × SG :=
  if e ≠ 0 then (e, s)
  else if (payR s.tol s.fs s.L ls).1 ≠ 0 then ((payR s.tol s.fs s.L ls).1, s)
  else (0, ⟨(payR s.tol s.fs s.L ls).2.1, s.tol, (payR s.tol s.fs s.L ls).2.2⟩)
def sameP (L M : List EN) : Prop := ∀ id, (lkL L id).map (fun e => (e.1.fund, e.1.price)) = (lkL M id).map (fun e => (e.1.fund, e.1.price))
theorem one_line {f : FSt} {c p q : Int} (hf : fundOK f) (hc : 1 ≤ c) (hp : 0 ≤ p) (hq : 0 ≤ q) (he : c * p ≤ f.en) :
    (relP f (c * p)).1 = 0 ∧ ((spdP (relP f (c * p)).2 (c * q)).1 ≠ 0 ↔ f.free + c * (p - q) < 0) ∧ ((spdP (relP f (c * p)).2 (c * q)).1 ≠ 0 → (spdP (relP f (c * p)).2 (c * q)).1 = 60) ∧
    ((spdP (relP f (c * p)).2 (c * q)).1 = 0 → (spdP (relP f (c * p)).2 (c * q)).2.free = f.free + c * (p - q) ∧ (spdP (relP f (c * p)).2 (c * q)).2.en = f.en - c * p) := by
  have h1 : 0 ≤ c * p := Int.mul_nonneg (by omega) hp
  have h2 : 0 ≤ c * q := Int.mul_nonneg (by omega) hq
  have e1 : relP f (c * p) = (0, { f with en := f.en - c * p }) := by unfold relP; rw [if_neg (by omega), if_neg (by omega)]
  have e2 : c * (p - q) = c * p - c * q := Int.mul_sub c p q
  rw [e1, e2]
  refine ⟨rfl, ?_, ?_, ?_⟩ <;> (unfold spdP FSt.free; dsimp only; rw [if_neg (by omega)])
  · by_cases h3 : c * q > f.al - f.sp - (f.en - c * p)
    · rw [if_pos h3]; constructor
      · intro _; omega
      · intro _ h; cases h
    · rw [if_neg h3]; constructor
      · intro h; exact absurd rfl h
      · intro h; omega
  · by_cases h3 : c * q > f.al - f.sp - (f.en - c * p)
    · rw [if_pos h3]; exact fun _ => rfl
    · rw [if_neg h3]; exact fun h => absurd rfl h
  · by_cases h3 : c * q > f.al - f.sp - (f.en - c * p)
    · rw [if_pos h3]; intro h; cases h
    · rw [if_neg h3]; intro _; exact ⟨by dsimp only; omega, rfl⟩
theorem pay_same (tol : Int) (L0 : List EN) (fs0 : List FG) : ∀ (ls : List Ord) (L : List EN) (fr : Int → Option Int) (fs : List FG), INV ⟨fs, tol, L⟩ → (∀ id, frG fs0 fr id = freeG fs id) → sameP L0 L →
    (∀ ln ∈ ls, (1 ≤ ln.copies ∧ ln.copies ≤ 9999) ∧ 0 ≤ ln.price) →
    (payR tol fs L ls).1 = (goI tol fs0 L fr ls).1 ∧ ((goI tol fs0 L fr ls).1 = 0 → (payR tol fs L ls).2.1 = ls.foldl (pay1 L0) fs ∧ (payR tol fs L ls).2.2 = (goI tol fs0 L fr ls).2 ∧ INV ⟨ls.foldl (pay1 L0) fs, tol, (goI tol fs0 L fr ls).2⟩)
  | [], L, fr, fs, h, _, _, _ => ⟨rfl, fun _ => ⟨rfl, rfl, h⟩⟩
  | ln :: ls, L, fr, fs, h, hfr, hsm, hln => by
    obtain ⟨⟨c1, c2⟩, p1⟩ := hln ln (.head _)
    unfold payR goI
    cases hl : lkL L ln.id with
    | none => exact ⟨rfl, fun h => by cases h⟩
    | some z =>
      obtain ⟨x, first⟩ := z
      dsimp only
      by_cases hc : checkP tol ln (some (x, first)) ≠ 0
      · rw [if_pos hc, if_pos hc]; exact ⟨rfl, fun h => absurd h hc⟩
      rw [if_neg hc, if_neg hc]
      have hc0 := check_le (Decidable.of_not_not hc)
      obtain ⟨hm, hid⟩ := lkL_mem hl
      obtain ⟨hN, hB⟩ := h.both _ hm
      have hN' := hN
      obtain ⟨⟨o1, o2⟩, _⟩ := hN
      obtain ⟨b1, b2, b3, b4⟩ := hB
      have b4 := b4 hc0.2
      dsimp only at b1 b2 b3 b4 o1 o2 hid
      obtain ⟨f, hf⟩ := Option.isSome_iff_exists.1 (h.has _ hm)
      dsimp only at hf
      have hfe := h.en _ f hf
      have hge := sumR_ge x.fund hm h.both
      unfold trm at hge
      rw [if_pos rfl] at hge
      have hcp : ln.copies * x.price ≤ resP x := by
        unfold resP
        exact Int.mul_le_mul_of_nonneg_right (by omega) o1
      have hfk : fundOK f := by
        obtain ⟨g, hg, _, rfl⟩ := lkF_mem hf
        exact h.ok.fs g hg
      dsimp only at hge hfe
      obtain ⟨r1, r2, r3, r4⟩ := one_line (f := f) (c := ln.copies) (p := x.price) (q := ln.price) hfk c1 o1 p1 (by omega)
      have e1 : postG relP fs x.fund (ln.copies * x.price) = ((relP f (ln.copies * x.price)).1, setF fs x.fund (relP f (ln.copies * x.price)).2) := by unfold postG; rw [hf]
      have hf2 : lkF (setF fs x.fund (relP f (ln.copies * x.price)).2) x.fund = some (relP f (ln.copies * x.price)).2 := by rw [lkF_set, if_pos rfl, hf]; rfl
      have e2 : postG spdP (setF fs x.fund (relP f (ln.copies * x.price)).2) x.fund (ln.copies * ln.price) = ((spdP (relP f (ln.copies * x.price)).2 (ln.copies * ln.price)).1, setF (setF fs x.fund (relP f (ln.copies * x.price)).2) x.fund (spdP (relP f (ln.copies * x.price)).2 (ln.copies * ln.price)).2) := by unfold postG; rw [hf2]
      have hfree : frG fs0 fr x.fund = f.free := by rw [hfr]; unfold freeG; rw [hf]
      rw [e1]
      dsimp only
      rw [if_neg (fun q => q r1), e2, hfree]
      dsimp only
      by_cases hs : (spdP (relP f (ln.copies * x.price)).2 (ln.copies * ln.price)).1 ≠ 0
      · rw [if_pos hs, if_pos (r2.1 hs)]
        exact ⟨r3 hs, fun h => by cases h⟩
      rw [if_neg hs, if_neg (fun q => hs (r2.2 q))]
      obtain ⟨r5, r6⟩ := r4 (Decidable.of_not_not hs)
      have hfold : pay1 L0 fs ln = setF (setF fs x.fund (relP f (ln.copies * x.price)).2) x.fund (spdP (relP f (ln.copies * x.price)).2 (ln.copies * ln.price)).2 := by
        have h1 := hsm ln.id
        rw [hl] at h1
        unfold pay1
        cases h2 : lkL L0 ln.id with
        | none => rw [h2] at h1; cases h1
        | some y =>
          obtain ⟨y, fi⟩ := y
          rw [h2] at h1
          simp only [Option.map_some, Option.some.injEq, Prod.mk.injEq] at h1
          dsimp only
          rw [h1.1, h1.2, e1]
          dsimp only
          rw [e2]
      rw [List.foldl_cons, hfold]
      generalize hF : setF (setF fs x.fund (relP f (ln.copies * x.price)).2) x.fund (spdP (relP f (ln.copies * x.price)).2 (ln.copies * ln.price)).2 = F
      have hlk : ∀ j, lkF F j = if j = x.fund then some (spdP (relP f (ln.copies * x.price)).2 (ln.copies * ln.price)).2 else lkF fs j := fun j => by
        rw [← hF, lkF_set]
        by_cases hj : j = x.fund
        · rw [if_pos hj, if_pos hj, hf2]; rfl
        · rw [if_neg hj, if_neg hj, lkF_set, if_neg hj]
      have hFok : ∀ g ∈ F, fundOK g.s := by
        have := pay1_ok (L := L0) (ln := ln) h.ok.fs
        rw [show (SG.mk fs tol L).fs = fs from rfl, hfold, hF] at this
        exact this
      have hid' : lkL L { x with paid := x.paid + ln.copies }.id = some (x, first) := by show lkL L x.id = _; rw [hid]; exact hl
      refine pay_same tol L0 fs0 ls _ _ _ ?_ ?_ ?_ (fun l hl => hln l (.tail _ hl))
      · have hq : enN ({ x with paid := x.paid + ln.copies }, first) := ⟨paid_ordN hN' ⟨by omega, hc0.1⟩, (h.ok.L _ hm).2⟩
        refine INV.set (s := ⟨fs, tol, L⟩) h (x := x) hid' rfl (SGok.set (s := ⟨fs, tol, L⟩) h.ok hFok hq) ?_ (fun j g hj => ?_) (fun j => ?_)
        · unfold balO
          dsimp only
          omega
        · rw [hlk] at hj
          by_cases hjx : j = x.fund
          · rw [if_pos hjx] at hj
            injection hj with hj
            subst hj
            refine ⟨f, by rw [hjx]; exact hf, ?_⟩
            rw [r6, if_pos hjx]
            unfold resP
            dsimp only
            rw [show x.prom - (x.paid + ln.copies) = (x.prom - x.paid) - ln.copies by omega, Int.sub_mul]; omega
          · rw [if_neg hjx] at hj
            exact ⟨g, hj, by rw [if_neg hjx, Int.add_zero]⟩
        · show (lkF F j).isSome = (lkF fs j).isSome
          rw [hlk]
          split
          · rename_i h; rw [h, hf]; rfl
          · rfl
      · intro j
        unfold frG frS freeG
        rw [hlk]
        by_cases hj : j = x.fund
        · rw [if_pos hj, if_pos hj]; exact r5.symm
        · rw [if_neg hj, if_neg hj]
          exact hfr j
      · intro j
        rw [hsm j, lkL_set]
        dsimp only
        by_cases hj : j = x.id
        · rw [if_pos hj, hj, hid, hl]; rfl
        · rw [if_neg hj]
theorem invoice_same {s : SG} (h : INV s) {ls : List Ord} {e : Int} (hl : ∀ ln ∈ ls, (1 ≤ ln.copies ∧ ln.copies ≤ 9999) ∧ 0 ≤ ln.price) : invoiceR s ls e = invoiceG s ls e ∧ INV (invoiceG s ls e).2 := by
  unfold invoiceR invoiceG
  by_cases he : e ≠ 0
  · rw [if_pos he, if_pos he]; exact ⟨rfl, h⟩
  rw [if_neg he, if_neg he]
  obtain ⟨h1, h2⟩ := pay_same s.tol s.L s.fs ls s.L (fun _ => none) s.fs h (fun _ => rfl) (fun _ => rfl) hl
  rw [h1]
  by_cases h3 : (goI s.tol s.fs s.L (fun _ => none) ls).1 ≠ 0
  · rw [if_pos h3, if_pos h3]; exact ⟨rfl, h⟩
  rw [if_neg h3, if_neg h3]
  obtain ⟨h4, h5, h6⟩ := h2 (Decidable.of_not_not h3)
  rw [h4, h5]
  exact ⟨rfl, h6⟩
end Go.PK
