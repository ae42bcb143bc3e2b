/- Of the proofs of YtnflcekodobdlaaGreatDoor: PkReg PkEng PkOps PkOps2 PkOps3 PkCtl PkData PkLib PkApp PkMap PkFill PkSchema PkRead PkStd PkEx PkMore PkRows PkMade PkDeep PkDeep2 PkShell PkShell2 PkOps4 PkCal PkOps5 PkOps6 PkTy PkCal2 PkCal3 PkInts PkMapC PkKeys PkKeys2 PkBytes PkBld PkBld2 PkEdi PkEdi2 PkNest PkEdi3 PkEdi4 PkStr PkEdi5 PkOrd PkNum PkInv PkInv2 PkPay PkPayT PkOps7 PkOps8 PkEdi7 PkText PkPayR PkPayS PkPayL PkEdi6 PkWr PkFund PkOrdS, put together. -/
import Derived.StillTail
import Derived.Deep.Quiet
import Derived.Deep.Draws
import Derived.Below
import Derived.WalkKit
import Derived.WalkSpells
import Derived.WalkLawsBesides
import Derived.Maps.AppendAt
import Derived.Maps.Keyed
import Derived.Scope
import Derived.IntWalk
import Derived.Laws.IdiomStrings
import Derived.Laws.OwnMore
import Derived.ProofKit
import Derived.OpenShut
import Derived.ReadAgain
import Derived.Deep.Slices
import Derived.Shelf.SlIterI.Nil
import Derived.Lib.SlKeysI
import Derived.Laws.RangeAny
import Derived.Lib.ConvBytes
import Derived.Laws.AppendOwn
import Derived.Lib.FrozenHead
import Derived.Lib.OthersKept
import Derived.Laws.Externs
import Derived.Lib.Builder
import Derived.Lib.AppendStr
import Derived.Laws.BytesArg
import Derived.Lib.ItoaLen
import Derived.Lib.SplitLaws
import Derived.Sort.Grow
import Derived.Lib.AtoiAll
import Derived.Lib.ItoaNum
import Derived.Lib.IndexBytes
import Derived.Lib.IndexMore
import Derived.Laws.Runes
import Derived.Laws.ResultCell
set_option linter.unusedVariables false
set_option linter.unusedSimpArgs false
set_option maxRecDepth 100000

namespace Go.PK
open Go Go.RowKit
def Later (w w' : World) : Prop := Below w.heap.size w w'
theorem Later.refl (w : World) : Later w w := Below.refl _ _
theorem Later.trans {a b c : World} (h : Later a b) (k : Later b c) : Later a c := Below.trans h (Below.mono k h.size)
theorem Later.drew (w : World) : Later w w.drew := (Below.refl _ _).drew
theorem Later.drewN (w : World) (n : Nat) : Later w (w.drewN n) := ⟨rfl, rfl, rfl, Nat.le_refl _, fun _ _ => rfl⟩
theorem Later.alloc (w : World) (o : Obj) : Later w (w.alloc o) := (Below.refl _ _).alloc (Nat.le_refl _) o
section
variable {P : Program} {ops : Array Oper} {md : Region.Mode}
def fltUpon (P : Program) (w : World) (v : Value) : Result Next → Prop
  | .ok (.value u) w' => w' = w ∧ u = v
  | .ok .skip w' => w' = w ∧ v = undef
  | .ok (.enter f args) w' => w' = w ∧ Calls P f args w (fun e w'' => e = .returned v ∧ Later w w'')
  | _ => False
def fltAt (P : Program) (o : Oper) (a : Act) (w : World) (v : Value) : Prop := fltUpon P w v ((execOp a.eval o).run P w)
def flt (P : Program) (o : Oper) (a : Act) (w : World) (next : Act → Prop) : Prop := ∃ v, (∀ w', Later w w' → fltAt P o a w' v) ∧ next (a.put o.dst v)
def grw (P : Program) (o : Oper) (a : Act) (w : World) (next : Act → World → Prop) : Prop :=
  ∀ w', Later w w' → o.wp P a w' (fun a'' w'' => Later w' w'' ∧ next a'' w'') (fun _ _ _ => False)
def wpCan (P : Program) (ops : Array Oper) (Q : Act → World → Prop) : List (Bool × Nat) → Act → World → Prop
  | [], a, w => Q a w
  | (b, i) :: rest, a, w =>
    match ops[i]? with
    | none => False
    | some o =>
      if Region.wanted o (yielded ops a.tmps) then
        (match b with
         | true => flt P o a w (fun a' => wpCan P ops Q rest a' w)
         | false => grw P o a w (wpCan P ops Q rest))
      else wpCan P ops Q rest (a.put o.dst undef) w
def canOp (P : Program) (ops : Array Oper) (i : Nat) (K : Act → World → Prop) (a : Act) (w : World) : Prop :=
  ∀ w', Later w w' → wpOp P ops (fun _ _ _ => False) i (fun a'' w'' => Later w' w'' ∧ K a'' w'') a w'
theorem canOp_mono {i : Nat} {a : Act} {w : World} {K K' : Act → World → Prop} (h : ∀ a w, K a w → K' a w) (hh : canOp P ops i K a w) : canOp P ops i K' a w :=
  fun w' hw => wpOp_mono (fun _ _ hk => ⟨hk.1, h _ _ hk.2⟩) (hh w' hw)
theorem canOp_later {i : Nat} {a : Act} {w w1 : World} {K : Act → World → Prop} (hw : Later w w1) (hh : canOp P ops i K a w) : canOp P ops i K a w1 :=
  fun w' hw' => hh w' (hw.trans hw')
def wpAnyC (P : Program) (md : Region.Mode) (ops : Array Oper) (n : Nat) (L : Array Bool → Act → World → Prop) : Nat → Array Bool → Act → World → Prop
  | 0, listed, a, w => L listed a w
  | f + 1, listed, a, w =>
    Region.ready md ops listed ≠ [] ∧ ∀ i ∈ Region.ready md ops listed, i < n ∧ canOp P ops i (wpAnyC P md ops n L f (listed.setIfInBounds i true)) a w
def LaterClosed (L : Array Bool → Act → World → Prop) : Prop := ∀ listed a w w', Later w w' → L listed a w → L listed a w'
theorem wpAnyC_later {n : Nat} {L : Array Bool → Act → World → Prop} (hL : LaterClosed L) : ∀ (f : Nat) (listed : Array Bool) (a : Act) (w w' : World), Later w w' →
    wpAnyC P md ops n L f listed a w → wpAnyC P md ops n L f listed a w'
  | 0, _, _, _, _, h, hh => hL _ _ _ _ h hh
  | _ + 1, _, _, _, _, h, hh => ⟨hh.1, fun i hi => ⟨(hh.2 i hi).1, canOp_later h (hh.2 i hi).2⟩⟩
theorem wpAny_of_can {n g : Nat} {L : Array Bool → Act → World → Prop} {Q' : Exit → Act → World → Prop} (hL : ∀ listed a w, L listed a w → wpAny P md ops Q' g listed a w) :
    ∀ (f : Nat) (listed : Array Bool) (a : Act) (w : World), wpAnyC P md ops n L f listed a w → wpAny P md ops Q' (f + g) listed a w
  | 0, listed, a, w, h => by rw [Nat.zero_add]; exact hL _ _ _ h
  | f + 1, listed, a, w, h => by
    rw [show f + 1 + g = (f + g) + 1 by omega]
    refine ⟨fun h0 => absurd h0 h.1, fun i hi => ?_⟩
    have h1 := (h.2 i hi).2 w (Later.refl w)
    have h2 : wpOp P ops (fun _ _ _ => False) i (wpAny P md ops Q' (f + g) (listed.setIfInBounds i true)) a w :=
      wpOp_mono (fun a' w' h' => wpAny_of_can hL f _ a' w' h'.2) h1
    -- the exits other than the normal one do not come up
    unfold wpOp at h2 ⊢
    split
    · rename_i ho; simp only [ho] at h2; exact h2
    · rename_i o ho
      simp only [ho] at h2
      split
      · rename_i hw
        simp only [hw, if_true] at h2
        rcases h2 with h2 | ⟨_, _, _, h2⟩
        · refine .inl ?_
          unfold Oper.wp at h2 ⊢
          generalize (execOp a.eval o).run P w = r at *
          cases r with
          | ok x w' =>
            cases x <;> simp only [Oper.upon] at h2 ⊢ <;> first
              | exact h2
              | (refine Calls.mono h2 fun e w'' he => ?_
                 cases e with
                 | returned u => exact he
                 | panicked c => exact he.elim
                 | outgrown => obtain ⟨_, _, hf⟩ := he; exact hf.elim)
          | halt x w' => cases x <;> simp only [Oper.upon] at h2 ⊢
        · exact h2.elim
      · rename_i hw
        simp only [hw] at h2
        exact h2
def YieldsC (P : Program) (ops : Array Oper) (o : Oper) (v : Value) (a : Act) (w : World) : Prop :=
  (Region.wanted o (yielded ops a.tmps) = true ∧ ∀ w', Later w w' → fltAt P o a w' v) ∨ (Region.wanted o (yielded ops a.tmps) = false ∧ v = undef)
theorem YieldsC.later {o : Oper} {v : Value} {a : Act} {w w' : World} (hw : Later w w') (h : YieldsC P ops o v a w) : YieldsC P ops o v a w' :=
  h.imp (fun h => ⟨h.1, fun w1 h1 => h.2 w1 (hw.trans h1)⟩) id
theorem YieldsC.of_same {o : Oper} {v : Value} {a a' : Act} {w : World} (hy : YieldsC P ops o v a w) (he : execOp a'.eval o = execOp a.eval o)
    (hw : Region.wanted o (yielded ops a'.tmps) = Region.wanted o (yielded ops a.tmps)) : YieldsC P ops o v a' w := by
  unfold YieldsC fltAt at *
  rw [he, hw]
  exact hy
theorem YieldsC.canOp {i : Nat} {o : Oper} {v : Value} {a : Act} {w : World} (hi : ops[i]? = some o) (hy : YieldsC P ops o v a w) {K : Act → World → Prop}
    (h : ∀ w', Later w w' → K (a.put o.dst v) w') : canOp P ops i K a w := by
  intro w' hw'
  unfold Go.wpOp
  simp only [hi]
  rcases hy with ⟨hw, hv⟩ | ⟨hw, rfl⟩
  · rw [if_pos hw]
    refine .inl ?_
    have h3 := hv w' hw'
    unfold fltAt at h3
    unfold Oper.wp
    generalize (execOp a.eval o).run P w' = r at *
    cases r with
    | ok n w1 =>
      cases n <;> simp only [fltUpon] at h3 <;> simp only [Oper.upon]
      case value u => obtain ⟨rfl, rfl⟩ := h3; exact ⟨Later.refl _, h _ hw'⟩
      case skip => obtain ⟨rfl, rfl⟩ := h3; exact ⟨Later.refl _, h _ hw'⟩
      case enter f args =>
        obtain ⟨rfl, hc⟩ := h3
        exact hc.mono fun e w2 ⟨he, hl⟩ => by subst he; exact ⟨hl, h _ (hw'.trans hl)⟩
    | halt x w1 => simp only [fltUpon] at h3
  · rw [if_neg (by rw [hw]; exact Bool.false_ne_true)]
    exact ⟨Later.refl _, h _ hw'⟩
theorem canOp_put {j : Nat} {oi oj : Oper} {v : Value} (hj : ops[j]? = some oj) (hap : oi.apart ops oj = true)
    (hsi : ∀ cs b, oi.op ≠ .select cs b) (hsj : ∀ cs b, oj.op ≠ .select cs b) {K : Act → World → Prop} {a : Act} {w : World}
    (hy : YieldsC P ops oi v a w) (h : canOp P ops j K (a.put oi.dst v) w) :
    canOp P ops j (fun a' w' => YieldsC P ops oi v a' w' ∧ K (a'.put oi.dst v) w') a w := by
  obtain ⟨h1, h2, h3⟩ := Oper.apart_spec hap
  intro w' hw'
  have hy' := hy.later hw'
  have keep : ∀ (a : Act) (w : World), YieldsC P ops oi v a w → ∀ u, YieldsC P ops oi v (a.put oj.dst u) w := fun a w hy u =>
    hy.of_same (execOp_put oi hsi a oj.dst u h3) (wanted_put oi a oj.dst u h3)
  have keepD : ∀ d, YieldsC P ops oi v { a with defers := d :: a.defers } w' := fun d => hy'.of_same rfl rfl
  have h := h w' hw'
  unfold Go.wpOp at *
  simp only [hj] at *
  rw [wanted_put oj a oi.dst v h1] at h
  split
  · rename_i hw
    simp only [hw, if_true] at h
    rcases h with h | ⟨hasks, _, _, hlets⟩
    case inr => exact hlets.elim
    refine .inl ?_
    unfold Oper.wp at *
    rw [execOp_put oj hsj a oi.dst v h1] at h
    generalize (execOp a.eval oj).run P w' = r at *
    cases r with
    | ok n w1 =>
      cases n <;> simp only [Oper.upon] at h ⊢
      case value u => exact ⟨h.1, (keep a _ hy' u).later h.1, by rw [← Act.put_comm a v u h2]; exact h.2⟩
      case skip => exact ⟨h.1, (keep a _ hy' _).later h.1, by rw [← Act.put_comm a v undef h2]; exact h.2⟩
      case defer d =>
        refine ⟨h.1, (keep _ _ (keepD d) _).later h.1, ?_⟩
        rw [← Act.put_comm _ v undef h2, ← Act.put_defers]
        exact h.2
      case enter f args =>
        -- the callee's own start: the world w1 may differ from w'
        refine Calls.mono h fun e w2 he => ?_
        cases e with
        | returned u => exact ⟨he.1, (keep a _ hy' u).later he.1, by rw [← Act.put_comm a v u h2]; exact he.2⟩
        | panicked c => exact he
        | outgrown => exact he
      case row row args => exact Rows.mono h fun u w2 he => ⟨he.1, (keep a _ hy' u).later he.1, by rw [← Act.put_comm a v u h2]; exact he.2⟩
    | halt x w1 =>
      cases x <;> simp only [Oper.upon] at h ⊢
  · rename_i hw
    simp only [hw] at h
    exact ⟨h.1, (keep a _ hy' _).later h.1, by rw [← Act.put_comm a v undef h2]; exact h.2⟩
theorem wpAnyC_first {n i : Nat} {oi : Oper} {v : Value} {L : Array Bool → Act → World → Prop} (hL : LaterClosed L) (hi : ops[i]? = some oi) (hsel : ∀ (j : Nat) (o : Oper) cs b, ops[j]? = some o → o.op ≠ .select cs b)
    (hnt : ∀ listed, HeadInv md ops n listed → listed.getD i true = false → ∀ j ∈ Region.ready md ops listed, j < n)
    (hdone : ∀ listed a w, L listed a w → ∀ j ∈ Region.ready md ops listed, n ≤ j) (hin : i < n) :
    ∀ (f : Nat) (listed : Array Bool) (a : Act) (w : World), HeadInv md ops n listed →
      (∀ j oj, ops[j]? = some oj → j ≠ i → listed.getD j true = false → (∀ e ∈ oj.after, Region.binds md e = true → e.on ≠ i) → oi.apart ops oj = true) →
      i ∈ Region.ready md ops listed → YieldsC P ops oi v a w →
      wpAnyC P md ops n L f (listed.setIfInBounds i true) (a.put oi.dst v) w → wpAnyC P md ops n L (f + 1) listed a w := by
  intro f
  induction f with
  | zero =>
    intro listed a w inv _ hr hy H
    have hun := (mem_ready.1 hr).1
    refine ⟨fun h => (by rw [h] at hr; cases hr), fun j hj => ?_⟩
    have hjn := hnt listed inv hun j hj
    refine ⟨hjn, ?_⟩
    by_cases hji : j = i
    · subst hji; exact hy.canOp hi fun w' hw' => hL _ _ _ _ hw' H
    · have := hdone _ _ _ H j (ready_mono hj hji)
      omega
  | succ f ih =>
    intro listed a w inv hfree hr hy H
    have hun := (mem_ready.1 hr).1
    refine ⟨fun h => (by rw [h] at hr; cases hr), fun j hj => ?_⟩
    have hjn := hnt listed inv hun j hj
    refine ⟨hjn, ?_⟩
    by_cases hji : j = i
    · subst hji; exact hy.canOp hi fun w' hw' => wpAnyC_later hL _ _ _ _ _ hw' H
    · have h1 := (H.2 j (ready_mono hj hji)).2
      obtain ⟨hjun, oj, hoj, hall⟩ := mem_ready.1 hj
      have hnot : ∀ e ∈ oj.after, Region.binds md e = true → e.on ≠ i := fun e he hb heq => by
        have h1 := hall e he hb
        rw [heq, getD_both hun] at h1
        cases h1
      have h2 := canOp_put hoj (hfree j oj hoj hji hjun hnot) (fun cs b => hsel i oi cs b hi) (fun cs b => hsel j oj cs b hoj) hy h1
      have hfree' : ∀ k ok, ops[k]? = some ok → k ≠ i → (listed.setIfInBounds j true).getD k true = false →
          (∀ e ∈ ok.after, Region.binds md e = true → e.on ≠ i) → oi.apart ops ok = true := fun k ok hk hki hun hno => by
        refine hfree k ok hk hki ?_ hno
        by_cases hjk : j = k
        · subst hjk; exact hjun
        · rw [getD_set_ne true hjk] at hun; exact hun
      refine canOp_mono (fun a' w' h3 => ih (listed.setIfInBounds j true) a' w' (inv.set hj hjn) hfree' (ready_mono hr (Ne.symm hji)) h3.1 ?_) h2
      rw [Array.setIfInBounds_comm _ _ hji]
      exact h3.2
def planB (md : Region.Mode) (ops : Array Oper) (n : Nat) : List (Bool × Nat) → Array Bool → Bool
  | [], listed => Region.seqB md ops (ops.size - n) n listed
  | (true, i) :: rest, listed => decide (i < n) && (Region.ready md ops listed).contains i && Region.free md ops listed i && planB md ops n rest (listed.setIfInBounds i true)
  | (false, i) :: rest, listed => decide (i < n) && decide (Region.ready md ops listed = [i]) && planB md ops n rest (listed.setIfInBounds i true)
def canB (md : Region.Mode) (ops : Array Oper) (n : Nat) (plan : List (Bool × Nat)) : Bool :=
  Region.noSelect ops && (decide (n = ops.size) || (decide (n < ops.size) && Region.sinkB md ops n && Region.chainB md ops n)) && decide (plan.length = n) && planB md ops n plan (Array.replicate ops.size false)
theorem ready_lt {listed : Array Bool} : ∀ j ∈ Region.ready md ops listed, j < ops.size := fun j hj => by
  obtain ⟨_, o, ho, _⟩ := mem_ready.1 hj
  exact (Array.getElem?_eq_some_iff.1 ho).1
theorem wpAnyC_plan {n : Nat} {Q : Act → World → Prop} (hQ : ∀ a w w', Later w w' → Q a w → Q a w') (hsel : Region.noSelect ops = true)
    (hnt : ∀ i, i < n → ∀ listed, HeadInv md ops n listed → listed.getD i true = false → ∀ j ∈ Region.ready md ops listed, j < n) :
    ∀ (plan : List (Bool × Nat)) (listed : Array Bool) (a : Act) (w : World), HeadInv md ops n listed → planB md ops n plan listed = true → wpCan P ops Q plan a w →
      wpAnyC P md ops n (fun listed' a' w' => Region.seqB md ops (ops.size - n) n listed' = true ∧ Q a' w') plan.length listed a w
  | [], listed, a, w, _, hB, h => ⟨by simpa [planB] using hB, h⟩
  | (true, i) :: rest, listed, a, w, inv, hB, h => by
    simp only [planB, Bool.and_eq_true, decide_eq_true_eq] at hB
    obtain ⟨⟨⟨hin, hr⟩, hf⟩, hB'⟩ := hB
    have hr' : i ∈ Region.ready md ops listed := by simpa using hr
    unfold wpCan at h
    cases ho : ops[i]? with
    | none => simp only [ho] at h
    | some o =>
      simp only [ho] at h
      obtain ⟨v, hy, hK⟩ : ∃ v, YieldsC P ops o v a w ∧ wpCan P ops Q rest (a.put o.dst v) w := by
        by_cases hw : Region.wanted o (yielded ops a.tmps) = true
        · rw [if_pos hw] at h
          obtain ⟨v, h1, h2⟩ := h
          exact ⟨v, .inl ⟨hw, h1⟩, h2⟩
        · rw [if_neg hw] at h
          exact ⟨undef, .inr ⟨by simpa using hw, rfl⟩, h⟩
      exact wpAnyC_first (fun _ _ _ _ hw hq => ⟨hq.1, hQ _ _ _ hw hq.2⟩) ho (Region.noSelect_spec hsel) (hnt i hin) (fun _ _ _ hL => seqB_ready hL.1) hin rest.length listed a w inv (Region.free_spec ho hf) hr' hy
        (wpAnyC_plan hQ hsel hnt rest _ _ _ (inv.set hr' hin) hB' hK)
  | (false, i) :: rest, listed, a, w, inv, hB, h => by
    simp only [planB, Bool.and_eq_true, decide_eq_true_eq] at hB
    obtain ⟨⟨hin, hr⟩, hB'⟩ := hB
    have hr' : i ∈ Region.ready md ops listed := by rw [hr]; simp
    unfold wpCan at h
    cases ho : ops[i]? with
    | none => simp only [ho] at h
    | some o =>
      simp only [ho] at h
      refine ⟨by rw [hr]; simp, fun j hj => ?_⟩
      rw [hr] at hj
      have hji : j = i := by simpa using hj
      subst hji
      refine ⟨hin, fun w' hw' => ?_⟩
      unfold wpOp
      simp only [ho]
      by_cases hw : Region.wanted o (yielded ops a.tmps) = true
      · rw [if_pos hw] at h ⊢
        exact .inl (Oper.wp_mono (fun a' w2 hk => ⟨hk.1, wpAnyC_plan hQ hsel hnt rest _ _ _ (inv.set hr' hin) hB' hk.2⟩) (h w' hw'))
      · rw [if_neg hw] at h ⊢
        exact ⟨Later.refl _, wpAnyC_later (fun _ _ _ _ hw hq => ⟨hq.1, hQ _ _ _ hw hq.2⟩) _ _ _ _ _ hw' (wpAnyC_plan hQ hsel hnt rest _ _ _ (inv.set hr' hin) hB' h)⟩
theorem wp_region_can {id : Nat} {Q : Exit → Act → World → Prop} {a : Act} {w : World} {l : List Oper} (n : Nat) (plan : List (Bool × Nat)) (hm : P.follows .mixedOrders = true) (hB : canB .any l.toArray n plan = true)
    (h : wpCan P l.toArray (fun a' w' => ∀ w'', Later w' w'' → wpList P l.toArray Q (l.drop n) a' w'') plan a w) : (Code.region id l.toArray true).wp P Q a w := by
  simp only [canB, Bool.and_eq_true, decide_eq_true_eq] at hB
  obtain ⟨⟨⟨hsel, hn⟩, hlen⟩, hpl⟩ := hB
  have hnle : n ≤ l.toArray.size := by
    rcases Bool.or_eq_true _ _ ▸ hn with hn | hn
    · simp only [decide_eq_true_eq] at hn; omega
    · simp only [Bool.and_eq_true, decide_eq_true_eq] at hn; omega
  have hnt : ∀ i, i < n → ∀ listed, HeadInv .any l.toArray n listed → listed.getD i true = false → ∀ j ∈ Region.ready .any l.toArray listed, j < n := by
    intro i hin listed inv hun j hj
    rcases Bool.or_eq_true _ _ ▸ hn with hn | hn
    · simp only [decide_eq_true_eq] at hn
      have := ready_lt j hj
      omega
    · simp only [Bool.and_eq_true, decide_eq_true_eq] at hn
      obtain ⟨⟨hn, hs⟩, hc⟩ := hn
      rcases Nat.lt_or_ge j n with h | h
      · exact h
      · exact absurd hj (tail_waits hs hc hn inv _ i rfl hin hun j h)
  have inv0 : HeadInv .any l.toArray n (Array.replicate l.toArray.size false) :=
    ⟨by simp, fun j oj _ hl => (by rw [getD_replicate_false] at hl; cases hl), fun t _ ht => getD_in (by simpa using ht) (getD_replicate_false _ _)⟩
  have H := wpAnyC_plan (P := P) (md := .any) (Q := fun a' w' => ∀ w'', Later w' w'' → wpList P l.toArray Q (l.drop n) a' w'') (fun a w w' hw hq w'' hw'' => hq w'' (hw.trans hw'')) hsel hnt plan _ a w inv0 hpl h
  refine wp_region_any hm ?_
  have hdl : (l.drop n).length = l.toArray.size - n := by simp
  have := wpAny_of_can (Q' := Q) (g := l.toArray.size - n) (fun listed a' w' hL => by
    have := wpAny_of_seq (md := .any) (Q' := Q) (l.drop n) n listed a' w' (fun j => by simp [List.getElem?_drop]) (by rw [hdl]; exact hL.1) (hL.2 w' (Later.refl _))
    rwa [hdl] at this) _ _ _ _ (wpAnyC_later (fun _ _ _ _ hw hq => ⟨hq.1, fun w2 h2 => hq.2 w2 (hw.trans h2)⟩) _ _ _ _ _ (Later.drew w) H)
  rw [hlen, show n + (l.toArray.size - n) = l.toArray.size by omega] at this
  exact this
end
end Go.PK

namespace Go.PK
open Go Go.RowKit
def ev (l : List (Nat × Value)) : Operand → Option Value
  | .tmp t => l.lookup t
  | .const v => some v
  | .global g => some (.pointer (some ⟨g, 0, none⟩))
  | .func f => some (.func (.func f) #[] #[])
def evs (l : List (Nat × Value)) : List Operand → Option (List Value)
  | [] => some []
  | x :: xs => match ev l x, evs l xs with
    | some v, some vs => some (v :: vs)
    | _, _ => none
structure FH (n : Nat) (l : List (Nat × Value)) (a : Act) : Prop where
  sz : a.tmps.size = n
  df : a.defers = []
  at_ : ∀ s v, l.lookup s = some v → a.tmps[s]? = some v
theorem FH.eval {n : Nat} {l : List (Nat × Value)} {a : Act} (h : FH n l a) {x : Operand} {v : Value} (hx : ev l x = some v) : a.eval x = v := by
  cases x with
  | tmp t => simp [Act.eval, h.at_ t v hx]
  | const u => simpa [ev, Act.eval] using hx
  | global g => simpa [ev, Act.eval] using hx
  | func f => simpa [ev, Act.eval] using hx
theorem FH.evals {n : Nat} {l : List (Nat × Value)} {a : Act} (h : FH n l a) : ∀ {xs : List Operand} {vs : List Value}, evs l xs = some vs → xs.map a.eval = vs
  | [], vs, hx => by simp [evs] at hx; simp [hx]
  | x :: xs, vs, hx => by
    simp only [evs] at hx
    split at hx
    · rename_i v us hv hus
      cases hx
      simp [h.eval hv, h.evals hus]
    · cases hx
theorem FH.put {n d : Nat} {l : List (Nat × Value)} {a : Act} (h : FH n l a) (v : Value) (hd : d < n) : FH n ((d, v) :: l) (a.put (some d) v) where
  sz := by simp [Act.put, h.sz]
  df := h.df
  at_ := fun s u hu => by
    simp only [List.lookup_cons] at hu
    by_cases hs : s = d
    · subst hs
      simp at hu
      subst hu
      simp [Act.put, h.sz, hd]
    · have : (s == d) = false := by simpa using hs
      simp only [this] at hu
      have hne : d ≠ s := fun e => hs e.symm
      simp only [Act.put]
      rw [Array.getElem?_setIfInBounds_ne hne]
      exact h.at_ s u hu
def Sub (l' l : List (Nat × Value)) : Prop := ∀ s v, l'.lookup s = some v → l.lookup s = some v
theorem Sub.nil {l : List (Nat × Value)} : Sub [] l := fun s v h => by simp at h
theorem Sub.cons {l l' : List (Nat × Value)} {d : Nat} {v : Value} (h : l.lookup d = some v) (k : Sub l' l) : Sub ((d, v) :: l') l := fun s u hu => by
  simp only [List.lookup_cons] at hu
  by_cases hs : s = d
  · subst hs; simp at hu; subst hu; exact h
  · have : (s == d) = false := by simpa using hs
    simp only [this] at hu
    exact k s u hu
theorem Sub.refl (l : List (Nat × Value)) : Sub l l := fun _ _ h => h
theorem FH.sub {n : Nat} {l l' : List (Nat × Value)} {a : Act} (h : FH n l a) (k : Sub l' l) : FH n l' a := ⟨h.sz, h.df, fun s v hv => h.at_ s v (k s v hv)⟩
abbrev Snap := World × (Nat → Prop)
structure Mem (w : World) (own : List (Nat × Obj)) (ro : List Snap) : Prop where
  own_at : ∀ p ∈ own, w.heap[p.1]? = some p.2
  own_nd : (own.map (·.1)).Nodup
  ro_st : ∀ s ∈ ro, w.os = s.1.os ∧ w.tape = s.1.tape ∧ w.output = s.1.output ∧ s.1.heap.size ≤ w.heap.size
  ro_at : ∀ s ∈ ro, ∀ k, s.2 k → k < s.1.heap.size → w.heap[k]? = s.1.heap[k]?
  apart : ∀ p ∈ own, ∀ s ∈ ro, s.2 p.1 → s.1.heap.size ≤ p.1
theorem heap_lt {w : World} {k : Nat} {o : Obj} (h : w.heap[k]? = some o) : k < w.heap.size := by
  rcases Nat.lt_or_ge k w.heap.size with h' | h'
  · exact h'
  · rw [Array.getElem?_eq_none h'] at h; cases h
section
variable {w w' : World} {own : List (Nat × Obj)} {ro : List Snap}
theorem Mem.later (h : Mem w own ro) (hl : Later w w') : Mem w' own ro where
  own_at := fun p hp => (hl.block p.1 (heap_lt (h.own_at p hp))).trans (h.own_at p hp)
  own_nd := h.own_nd
  ro_st := fun s hs => by
    obtain ⟨h1, h2, h3, h4⟩ := h.ro_st s hs
    exact ⟨hl.os.trans h1, hl.tape.trans h2, hl.output.trans h3, Nat.le_trans h4 hl.size⟩
  ro_at := fun s hs k hk hlt => (hl.block k (Nat.lt_of_lt_of_le hlt (h.ro_st s hs).2.2.2)).trans (h.ro_at s hs k hk hlt)
  apart := h.apart
theorem Mem.lt (h : Mem w own ro) {p : Nat × Obj} (hp : p ∈ own) : p.1 < w.heap.size := heap_lt (h.own_at p hp)
theorem Mem.new (h : Mem w own ro) (o : Obj) : Mem (w.alloc o) ((w.heap.size, o) :: own) ro where
  own_at := fun p hp => by
    rcases List.mem_cons.1 hp with rfl | hp
    · show (w.heap.push o)[w.heap.size]? = some o
      simp
    · exact (Below.heap_alloc w o p.1 (h.lt hp)).trans (h.own_at p hp)
  own_nd := by
    simp only [List.map_cons, List.nodup_cons]
    refine ⟨fun hm => ?_, h.own_nd⟩
    obtain ⟨p, hp, he⟩ := List.mem_map.1 hm
    have := h.lt hp
    omega
  ro_st := (h.later (Later.alloc w o)).ro_st
  ro_at := (h.later (Later.alloc w o)).ro_at
  apart := fun p hp s hs hd => by
    rcases List.mem_cons.1 hp with rfl | hp
    · exact (h.ro_st s hs).2.2.2
    · exact h.apart p hp s hs hd
structure Turned (w w' : World) (b : Nat) (o : Obj) : Prop where
  os : w'.os = w.os
  tape : w'.tape = w.tape
  output : w'.output = w.output
  size : w'.heap.size = w.heap.size
  at_ : w'.heap[b]? = some o
  other : ∀ k, k ≠ b → w'.heap[k]? = w.heap[k]?
theorem Mem.turn {l1 l2 : List (Nat × Obj)} {b : Nat} {o o' : Obj} (h : Mem w (l1 ++ (b, o) :: l2) ro) (ht : Turned w w' b o') : Mem w' (l1 ++ (b, o') :: l2) ro := by
  have hb : (b, o) ∈ l1 ++ (b, o) :: l2 := by simp
  have hnd := h.own_nd
  simp only [List.map_append, List.map_cons] at hnd
  have hne : ∀ p, p ∈ l1 ∨ p ∈ l2 → p.1 ≠ b := by
    intro p hp e
    rw [List.nodup_append] at hnd
    obtain ⟨_, h2, h3⟩ := hnd
    rcases hp with hp | hp
    · exact h3 p.1 (List.mem_map_of_mem hp) b (by simp) e
    · exact (List.nodup_cons.1 h2).1 (e ▸ List.mem_map_of_mem hp)
  refine ⟨fun p hp => ?_, by simpa using h.own_nd, fun s hs => ?_, fun s hs k hk hlt => ?_, fun p hp s hs hd => ?_⟩
  · simp only [List.mem_append, List.mem_cons] at hp
    rcases hp with hp | rfl | hp
    · exact (ht.other _ (hne p (.inl hp))).trans (h.own_at p (by simp [hp]))
    · exact ht.at_
    · exact (ht.other _ (hne p (.inr hp))).trans (h.own_at p (by simp [hp]))
  · obtain ⟨h1, h2, h3, h4⟩ := h.ro_st s hs
    exact ⟨ht.os.trans h1, ht.tape.trans h2, ht.output.trans h3, by rw [ht.size]; exact h4⟩
  · have : k ≠ b := fun e => by
      subst e
      have := h.apart _ hb s hs hk
      simp only at this
      omega
    exact (ht.other k this).trans (h.ro_at s hs k hk hlt)
  · simp only [List.mem_append, List.mem_cons] at hp
    rcases hp with hp | rfl | hp
    · exact h.apart p (by simp [hp]) s hs hd
    · exact h.apart (b, o) hb s hs hd
    · exact h.apart p (by simp [hp]) s hs hd
def notOwn (own : List (Nat × Obj)) : Nat → Prop := fun k => ∀ p ∈ own, p.1 ≠ k
theorem Mem.snap (h : Mem w own ro) : Mem w own ((w, notOwn own) :: ro) where
  own_at := h.own_at
  own_nd := h.own_nd
  ro_st := fun s hs => by
    rcases List.mem_cons.1 hs with rfl | hs
    · exact ⟨rfl, rfl, rfl, Nat.le_refl _⟩
    · exact h.ro_st s hs
  ro_at := fun s hs k hk hlt => by
    rcases List.mem_cons.1 hs with rfl | hs
    · rfl
    · exact h.ro_at s hs k hk hlt
  apart := fun p hp s hs hd => by
    rcases List.mem_cons.1 hs with rfl | hs
    · exact absurd rfl (hd p hp)
    · exact h.apart p hp s hs hd
theorem Mem.less (h : Mem w own ro) {own' : List (Nat × Obj)} {ro' : List Snap} (ho : own'.Sublist own) (hr : ∀ s ∈ ro', s ∈ ro) : Mem w own' ro' :=
  ⟨fun p hp => h.own_at p (ho.subset hp), (ho.map _).nodup h.own_nd, fun s hs => h.ro_st s (hr s hs), fun s hs => h.ro_at s (hr s hs), fun p hp s hs => h.apart p (ho.subset hp) s (hr s hs)⟩
theorem Mem.init (w : World) : Mem w [] [(w, fun _ => True)] :=
  ⟨fun p hp => by simp at hp, by simp, fun s hs => by simp at hs; subst hs; exact ⟨rfl, rfl, rfl, Nat.le_refl _⟩, fun s hs k _ _ => by simp at hs; subst hs; rfl, fun p hp => by simp at hp⟩
theorem Mem.base (h : Mem w own ro) {w0 : World} (hs : (w0, fun _ => True) ∈ ro) : Later w0 w := by
  obtain ⟨h1, h2, h3, h4⟩ := h.ro_st _ hs
  exact ⟨h1, h2, h3, h4, fun k hk => h.ro_at _ hs k trivial hk⟩
theorem Mem.cell_ro (h : Mem w own ro) {s : Snap} (hs : s ∈ ro) {p : Addr} (hd : s.2 p.block) (hlt : p.block < s.1.heap.size) : w.cell? p = s.1.cell? p :=
  World.cell?_of_block (w := s.1) (h.ro_at s hs p.block hd hlt)
theorem cell_lt {w : World} {p : Addr} {v : Value} (h : w.cell? p = some v) : p.block < w.heap.size := by
  unfold World.cell? at h
  split at h
  · exact heap_lt ‹_›
  · cases h
theorem Mem.cell_own (h : Mem w own ro) {b : Nat} {cs : Array Value} {t : TypeId} {fz : Nat × Nat} (hb : (b, Obj.cells cs t fz) ∈ own) (i : Nat) : w.cell? ⟨b, i, none⟩ = cs[i]? :=
  cell_of_row w b i cs t fz (h.own_at _ hb)
end
section
variable {P : Program} {n : Nat} {l : List (Nat × Value)} {own : List (Nat × Obj)} {ro : List Snap}
def W (P : Program) (c : Code) (Q : Exit → Act → World → Prop) (n : Nat) (l : List (Nat × Value)) (own : List (Nat × Obj)) (ro : List Snap) : Prop :=
  ∀ a w, FH n l a → Mem w own ro → c.wp P Q a w
def S (K : Act → World → Prop) (n : Nat) (l : List (Nat × Value)) (own : List (Nat × Obj)) (ro : List Snap) : Prop := ∀ a w, FH n l a → Mem w own ro → K a w
def wpX (P : Program) (ops : Array Oper) (Q : Exit → Act → World → Prop) (K : Act → World → Prop) : List (Option Bool × Nat) → Act → World → Prop
  | [], a, w => ∀ w', Later w w' → K a w'
  | (k, i) :: rest, a, w => match ops[i]? with
    | none => False
    | some o => match k with
      | some b => if Region.wanted o (yielded ops a.tmps) then
          (match b with
           | true => flt P o a w (fun a' => wpX P ops Q K rest a' w)
           | false => grw P o a w (wpX P ops Q K rest))
          else wpX P ops Q K rest (a.put o.dst undef) w
      | none => ∀ w', Later w w' → if Region.wanted o (yielded ops a.tmps) then o.wp P a w' (wpX P ops Q K rest) Q else wpX P ops Q K rest (a.put o.dst undef) w'
def WX (P : Program) (ops : Array Oper) (Q : Exit → Act → World → Prop) (K : Act → World → Prop) (plan : List (Option Bool × Nat)) (n : Nat) (l : List (Nat × Value)) (own : List (Nat × Obj)) (ro : List Snap) : Prop :=
  ∀ a w, FH n l a → Mem w own ro → wpX P ops Q K plan a w
theorem wpX_later {ops : Array Oper} {Q : Exit → Act → World → Prop} {K : Act → World → Prop} {rest : List Nat} {a : Act} {w w' : World} (hl : Later w w') (h : wpX P ops Q K (rest.map fun i => (none, i)) a w) :
    wpX P ops Q K (rest.map fun i => (none, i)) a w' := by
  cases rest with
  | nil => exact fun w2 h2 => h w2 (hl.trans h2)
  | cons i rest =>
    simp only [List.map_cons, wpX] at h ⊢
    split <;> rename_i ho <;> simp only [ho] at h
    exact fun w2 h2 => h w2 (hl.trans h2)
theorem wpList_of_X {Q : Exit → Act → World → Prop} {lops : List Oper} : ∀ (r : List Oper) (k : Nat) (a : Act) (w : World), lops.drop k = r →
    wpX P lops.toArray Q (fun a w => Q .normal a w) ((List.range' k (lops.length - k)).map fun i => (none, i)) a w → wpList P lops.toArray Q r a w
  | [], k, a, w, hr, h => by
    have hk : lops.length ≤ k := by simpa using hr
    rw [show lops.length - k = 0 by omega] at h
    exact h w (Later.refl _)
  | o :: r, k, a, w, hr, h => by
    have hk : k < lops.length := by
      rcases Nat.lt_or_ge k lops.length with h' | h'
      · exact h'
      · rw [List.drop_eq_nil_of_le h'] at hr; cases hr
    have hd := List.drop_eq_getElem_cons hk
    rw [hr] at hd
    injection hd with h1 h2
    rw [show lops.length - k = (lops.length - (k + 1)) + 1 by omega, List.range'_succ, List.map_cons] at h
    simp only [wpX, List.getElem?_toArray, List.getElem?_eq_getElem hk, ← h1] at h
    have h3 := h w (Later.refl _)
    refine wpList_step fun K hK => ?_
    split <;> rename_i hw
    · rw [if_pos hw] at h3
      exact Oper.wp_mono (fun a' w' hk' => hK _ _ (wpList_of_X r (k + 1) a' w' h2.symm hk')) h3
    · rw [if_neg hw] at h3
      exact hK _ _ (wpList_of_X r (k + 1) _ w h2.symm h3)
def tailFrom (m s : Nat) : List (Option Bool × Nat) := (List.range' m (s - m)).map fun i => (none, i)
theorem wpCan_of_X {lops : List Oper} {Q : Exit → Act → World → Prop} (m : Nat) : ∀ (plan : List (Bool × Nat)) (a : Act) (w : World),
    wpX P lops.toArray Q (fun a w => Q .normal a w) ((plan.map fun p => (some p.1, p.2)) ++ tailFrom m lops.length) a w →
    wpCan P lops.toArray (fun a' w' => ∀ w'', Later w' w'' → wpList P lops.toArray Q (lops.drop m) a' w'') plan a w
  | [], a, w, h => fun w2 h2 => wpList_of_X _ m a w2 rfl (wpX_later h2 h)
  | (b, i) :: plan, a, w, h => by
    simp only [List.map_cons, List.cons_append, wpX] at h
    simp only [wpCan]
    split <;> rename_i ho <;> simp only [ho] at h
    split <;> rename_i hw
    · rw [if_pos hw] at h
      cases b with
      | true => obtain ⟨v, h1, h2⟩ := h; exact ⟨v, h1, wpCan_of_X m plan _ w h2⟩
      | false => exact fun w2 h2 => Oper.wp_mono (fun a' w' hk => ⟨hk.1, wpCan_of_X m plan a' w' hk.2⟩) (h w2 h2)
    · rw [if_neg hw] at h
      exact wpCan_of_X m plan _ w h
theorem rg_draw {id : Nat} {Q : Exit → Act → World → Prop} {lops : List Oper} (m : Nat) (plan : List (Bool × Nat)) (hm : P.follows .mixedOrders = true) (hB : canB .any lops.toArray m plan = true)
    (h : WX P lops.toArray Q (fun a w => Q .normal a w) ((plan.map fun p => (some p.1, p.2)) ++ tailFrom m lops.length) n l own ro) : W P (.region id lops.toArray true) Q n l own ro :=
  fun a w ha hw => wp_region_can m plan hm hB (wpCan_of_X m plan a w (h a w ha hw))
theorem rg_text {id : Nat} {Q : Exit → Act → World → Prop} {lops : List Oper}
    (h : WX P lops.toArray Q (fun a w => Q .normal a w) (tailFrom 0 lops.length) n l own ro) : W P (.region id lops.toArray false) Q n l own ro :=
  fun a w ha hw => wp_region_lit (wpList_of_X lops 0 a w (by simp) (h a w ha hw))
section
variable {Q : Exit → Act → World → Prop}
theorem w_seq {x y : Code} (h : W P x (Exit.then (y.wp P Q) Q) n l own ro) : W P (.seq x y) Q n l own ro := fun a w ha hw => wp_seq (h a w ha hw)
theorem w_block {id : Nat} {c : Code} (h : W P c (Exit.inBlock id Q) n l own ro) : W P (.block id c) Q n l own ro := fun a w ha hw => wp_block (h a w ha hw)
theorem w_skip (h : S (Q .normal) n l own ro) : W P .skip Q n l own ro := fun a w ha hw => wp_skip (h a w ha hw)
theorem w_exit {id : Nat} (h : S (Q (.exit id)) n l own ro) : W P (.exit id) Q n l own ro := fun a w ha hw => wp_exit (h a w ha hw)
theorem w_ret (h : S (Q .ret) n l own ro) : W P .ret Q n l own ro := fun a w ha hw => wp_ret (h a w ha hw)
theorem w_cond {c : Operand} {x y : Code} {t : Bool} (hc : ev l c = some (.bool t)) (ht : t = true → W P x Q n l own ro) (hf : t = false → W P y Q n l own ro) : W P (.cond c x y) Q n l own ro :=
  fun a w ha hw => wp_cond_split (ha.eval hc) (fun h => ht h a w ha hw) (fun h => hf h a w ha hw)
theorem w_loop {c : Code} {σ : Type} (I : σ → Prop) (L : σ → List (Nat × Value)) (O : σ → List (Nat × Obj)) (R : σ → List Snap) (μ : σ → Nat) (x0 : σ) (hI : I x0)
    (h0 : ∀ a w, FH n l a → Mem w own ro → FH n (L x0) a ∧ Mem w (O x0) (R x0))
    (round : ∀ x, I x → W P c (Exit.then (fun a w => ∃ x', I x' ∧ μ x' < μ x ∧ FH n (L x') a ∧ Mem w (O x') (R x')) Q) n (L x) (O x) (R x)) : W P (.loop c) Q n l own ro := by
  intro a w ha hw b k cs
  have key : ∀ m x, I x → μ x = m → ∀ a w, FH n (L x) a → Mem w (O x) (R x) →
      ∃ e a' w', Q e a' w' ∧ Arrives P (lone (b.at a (.code c :: .inLoop c :: k)) cs w) b k cs e a' w' := by
    intro m
    induction m using Nat.strongRecOn with
    | _ m ih =>
      intro x hIx hx a w ha hw
      obtain ⟨e, a₁, w₁, hq, harr⟩ := round x hIx a w ha hw b (.inLoop c :: k) cs
      cases e with
      | normal =>
        obtain ⟨x', hI', hlt, ha', hw'⟩ := hq
        obtain ⟨e₂, a₂, w₂, hq₂, harr₂⟩ := ih (μ x') (hx ▸ hlt) x' hI' rfl a₁ w₁ ha' hw'
        exact ⟨e₂, a₂, w₂, hq₂, .of_steps (Steps.trans harr (.one step_inLoop)) harr₂⟩
      | exit id => exact ⟨_, a₁, w₁, hq, .pass (x := .inLoop c) rfl (fun _ _ => .inl (by simp)) harr⟩
      | goto l => exact ⟨_, a₁, w₁, hq, .pass (x := .inLoop c) rfl (fun _ _ => .inl (by simp)) harr⟩
      | ret => exact ⟨_, a₁, w₁, hq, .pass (x := .inLoop c) rfl (fun _ _ => .inl (by simp)) harr⟩
      | panic ch => exact ⟨_, a₁, w₁, hq, .pass (x := .inLoop c) rfl (fun _ _ => .inl (by simp)) harr⟩
      | outgrown => exact ⟨_, a₁, w₁, hq, .pass (x := .inLoop c) rfl (fun _ _ => .inl (by simp)) harr⟩
  obtain ⟨h1, h2⟩ := h0 a w ha hw
  obtain ⟨e, a', w', hq, harr⟩ := key _ x0 hI rfl a w h1 h2
  exact ⟨e, a', w', hq, .of_steps (.one step_loop) harr⟩
end
end
end Go.PK

namespace Go.PK
open Go Go.RowKit
section
variable {P : Program} {n : Nat} {l : List (Nat × Value)} {own : List (Nat × Obj)} {ro : List Snap} {lops : List Oper} {Q : Exit → Act → World → Prop} {K : Act → World → Prop}
  {rest : List (Option Bool × Nat)} {k : Option Bool} {i d : Nat} {op : Op} {ty : TypeId} {pos : String} {af : Array Edge}
def OpV (P : Program) (n : Nat) (l : List (Nat × Value)) (own : List (Nat × Obj)) (ro : List Snap) (op : Op) (ty : TypeId) (v : Value) : Prop :=
  ∀ a w (o : Oper), FH n l a → Mem w own ro → o.op = op → o.type = ty → (execOp a.eval o).run P w = .ok (.value v) w
theorem x_end (h : S K n l own ro) : WX P lops.toArray Q K [] n l own ro := fun a w ha hw w' hl => h a w' ha (hw.later hl)
def Go_ (lops : List Oper) (n : Nat) (l : List (Nat × Value)) (o : Oper) : Prop := ∀ a, FH n l a → Region.wanted o (yielded lops.toArray a.tmps) = true
def No_ (lops : List Oper) (n : Nat) (l : List (Nat × Value)) (o : Oper) : Prop := ∀ a, FH n l a → Region.wanted o (yielded lops.toArray a.tmps) = false
theorem go_none {o : Oper} (h : o.guard = none) : Go_ lops n l o := fun _ _ => by simp [Region.wanted, h]
theorem wanted_some {o : Oper} {a : Act} {j dj : Nat} {want b : Bool} (hg : o.guard = some (j, want)) (hj : (lops[j]?).bind (·.dst) = some dj) (ha : FH n l a) (hb : l.lookup dj = some (.bool b)) :
    Region.wanted o (yielded lops.toArray a.tmps) = (b == want) := by
  simp only [Region.wanted, hg, yielded, List.getElem?_toArray, hj, Option.bind_some, ha.at_ _ _ hb]
  cases b <;> cases want <;> rfl
theorem go_some {o : Oper} {j dj : Nat} {want : Bool} (hg : o.guard = some (j, want)) (hj : (lops[j]?).bind (·.dst) = some dj) (hb : l.lookup dj = some (.bool want)) : Go_ lops n l o :=
  fun a ha => by rw [wanted_some hg hj ha hb]; simp
theorem no_some {o : Oper} {j dj : Nat} {want b : Bool} (hg : o.guard = some (j, want)) (hj : (lops[j]?).bind (·.dst) = some dj) (hb : l.lookup dj = some (.bool b)) (hne : (b == want) = false) : No_ lops n l o :=
  fun a ha => by rw [wanted_some hg hj ha hb, hne]
theorem x_run {o : Oper} (ho : lops[i]? = some o) (hgo : Go_ lops n l o) (hd0 : o.dst = some d) (hk : k.getD true = true) (hd : decide (d < n) = true) {v : Value} (hv : OpV P n l own ro o.op o.type v)
    (h : WX P lops.toArray Q K rest n ((d, v) :: l) own ro) : WX P lops.toArray Q K ((k, i) :: rest) n l own ro := by
  intro a w ha hw
  have hd' : d < n := of_decide_eq_true hd
  have hw1 := hgo a ha
  simp only [wpX, List.getElem?_toArray, ho]
  cases k with
  | none =>
    intro w' hl
    rw [if_pos hw1]
    unfold Oper.wp
    rw [hv a w' _ ha (hw.later hl) rfl rfl]
    show wpX P lops.toArray Q K rest (a.put o.dst v) w'
    rw [hd0]
    exact h _ w' (ha.put v hd') (hw.later hl)
  | some b =>
    simp at hk
    subst hk
    dsimp only
    rw [if_pos hw1]
    refine ⟨v, fun w' hl => ?_, by rw [hd0]; exact h _ w (ha.put v hd') hw⟩
    unfold fltAt
    rw [hv a w' _ ha (hw.later hl) rfl rfl]
    exact ⟨rfl, rfl⟩
theorem x_pass {o : Oper} (ho : lops[i]? = some o) (hno : No_ lops n l o) (hd0 : o.dst = some d) (hd : decide (d < n) = true)
    (h : WX P lops.toArray Q K rest n ((d, undef) :: l) own ro) : WX P lops.toArray Q K ((k, i) :: rest) n l own ro := by
  intro a w ha hw
  have hd' : d < n := of_decide_eq_true hd
  have hw1 : ¬ Region.wanted o (yielded lops.toArray a.tmps) = true := by rw [hno a ha]; simp
  simp only [wpX, List.getElem?_toArray, ho]
  cases k with
  | none => intro w' hl; rw [if_neg hw1, hd0]; exact h _ w' (ha.put undef hd') (hw.later hl)
  | some b => dsimp only; rw [if_neg hw1, hd0]; exact h _ w (ha.put undef hd') hw
theorem x_val (ho : lops[i]? = some ⟨some d, op, ty, pos, af, none⟩) (hk : k.getD true = true) (hd : decide (d < n) = true) {v : Value} (hv : OpV P n l own ro op ty v)
    (h : WX P lops.toArray Q K rest n ((d, v) :: l) own ro) : WX P lops.toArray Q K ((k, i) :: rest) n l own ro :=
  x_run ho (go_none rfl) rfl hk hd hv h
theorem x_bool (ho : lops[i]? = some ⟨some d, op, ty, pos, af, none⟩) (hk : k.getD true = true) (hd : decide (d < n) = true) {b : Bool} (hv : OpV P n l own ro op ty (.bool b))
    (h : ∀ c, c = b → WX P lops.toArray Q K rest n ((d, .bool c) :: l) own ro) : WX P lops.toArray Q K ((k, i) :: rest) n l own ro :=
  x_val ho hk hd hv (h b rfl)
theorem x_no {j dj : Nat} {want b : Bool} (ho : lops[i]? = some ⟨some d, op, ty, pos, af, some (j, want)⟩) (hj : (lops[j]?).bind (·.dst) = some dj) (hb : l.lookup dj = some (.bool b)) (hne : (b == want) = false) (hd : decide (d < n) = true)
    (h : WX P lops.toArray Q K rest n ((d, undef) :: l) own ro) : WX P lops.toArray Q K ((k, i) :: rest) n l own ro :=
  x_pass ho (no_some rfl hj hb hne) rfl hd h
def gvl : List (Bool × Bool) → Value → Value
  | [], v => v
  | (b, w) :: gs, v => if b = w then gvl gs v else undef
def allg : List (Bool × Bool) → Prop
  | [] => True
  | (b, w) :: gs => b = w ∧ allg gs
theorem gvl_nil (v : Value) : gvl [] v = v := rfl
theorem gvl_t (gs : List (Bool × Bool)) (v : Value) : gvl ((true, true) :: gs) v = gvl gs v := rfl
theorem gvl_f (gs : List (Bool × Bool)) (v : Value) : gvl ((false, false) :: gs) v = gvl gs v := rfl
theorem gvl_yes : ∀ {gs : List (Bool × Bool)} {v : Value}, allg gs → gvl gs v = v
  | [], _, _ => rfl
  | (b, w) :: gs, v, h => by simp only [gvl, h.1, if_true]; exact gvl_yes h.2
theorem gvl_no : ∀ {gs : List (Bool × Bool)} {v : Value}, ¬ allg gs → gvl gs v = undef
  | [], _, h => absurd trivial h
  | (b, w) :: gs, v, h => by
    simp only [gvl]
    split
    · rename_i hb; exact gvl_no fun hg => h ⟨hb, hg⟩
    · rfl
theorem allg_snoc : ∀ {gs : List (Bool × Bool)} {b w : Bool}, allg (gs ++ [(b, w)]) ↔ allg gs ∧ b = w
  | [], b, w => by simp [allg]
  | (c, x) :: gs, b, w => by simp only [List.cons_append, allg, allg_snoc, and_assoc]
theorem go_gs {o : Oper} {j dj : Nat} {want b : Bool} {gs : List (Bool × Bool)} (hg : o.guard = some (j, want)) (hj : (lops[j]?).bind (·.dst) = some dj) (hb : l.lookup dj = some (gvl gs (.bool b))) (h : allg gs) (hw : b = want) : Go_ lops n l o :=
  fun a ha => by rw [gvl_yes h] at hb; subst hw; exact go_some hg hj hb a ha
theorem no_gs {o : Oper} {j dj : Nat} {want b : Bool} {gs : List (Bool × Bool)} (hg : o.guard = some (j, want)) (hj : (lops[j]?).bind (·.dst) = some dj) (hb : l.lookup dj = some (gvl gs (.bool b))) (h : ¬ (allg gs ∧ b = want)) : No_ lops n l o := by
  by_cases hgs : allg gs
  · rw [gvl_yes hgs] at hb
    exact no_some hg hj hb (by simpa using fun e => h ⟨hgs, e⟩)
  · rw [gvl_no hgs] at hb
    intro a ha
    simp only [Region.wanted, hg, yielded, List.getElem?_toArray, hj, Option.bind_some, ha.at_ _ _ hb, undef]
    cases want <;> rfl
theorem x_if {j dj : Nat} {want b : Bool} (gs : List (Bool × Bool)) (ho : lops[i]? = some ⟨some d, op, ty, pos, af, some (j, want)⟩) (hj : (lops[j]?).bind (·.dst) = some dj) (hb : l.lookup dj = some (gvl gs (.bool b))) (hk : k.getD true = true) (hd : decide (d < n) = true) {v : Value}
    (hv : allg (gs ++ [(b, want)]) → OpV P n l own ro op ty v)
    (h : WX P lops.toArray Q K rest n ((d, gvl (gs ++ [(b, want)]) v) :: l) own ro) : WX P lops.toArray Q K ((k, i) :: rest) n l own ro := by
  by_cases hg : allg (gs ++ [(b, want)])
  · obtain ⟨h1, h2⟩ := allg_snoc.1 hg
    refine x_run ho (go_gs rfl hj hb h1 h2) rfl hk hd (hv hg) ?_
    rwa [gvl_yes hg] at h
  · refine x_pass ho (no_gs rfl hj hb fun h => hg (allg_snoc.2 h)) rfl hd ?_
    rwa [gvl_no hg] at h
theorem x_ifb {j dj : Nat} {want b c : Bool} (gs : List (Bool × Bool)) (ho : lops[i]? = some ⟨some d, op, ty, pos, af, some (j, want)⟩) (hj : (lops[j]?).bind (·.dst) = some dj) (hb : l.lookup dj = some (gvl gs (.bool b))) (hk : k.getD true = true) (hd : decide (d < n) = true)
    (hv : allg (gs ++ [(b, want)]) → OpV P n l own ro op ty (.bool c))
    (h : ∀ c', c' = c → WX P lops.toArray Q K rest n ((d, gvl (gs ++ [(b, want)]) (.bool c')) :: l) own ro) : WX P lops.toArray Q K ((k, i) :: rest) n l own ro :=
  x_if gs ho hj hb hk hd hv (h c rfl)
theorem run_enter {f : FuncId} {fn : Func} (hf : P.funcs[f]? = some fn) (hbody : (!(fn.name == "runtime.NumGoroutine") && fn.body.isSome) = true) (args : Array Value) (w : World) :
    (callFunc f args).run P w = .ok (.enter f args) w := by
  simp only [Bool.and_eq_true, Bool.not_eq_true'] at hbody
  obtain ⟨h1, h2⟩ := hbody
  have h1' : ¬ fn.name = "runtime.NumGoroutine" := by simpa using h1
  have h3 : ¬ fn.body = none := by intro h; simp [h] at h2
  simp [callFunc, hf, h1', h3]
theorem run_callv {a : Act} {o : Oper} {w : World} {f : FuncId} {fn : Func} {xs : Array Operand} {tys : Array TypeId} {c : Operand} {vs : List Value} {cap : Array Value} {fst : Array Value}
    (ho : o.op = .call ⟨.value c, xs, tys⟩) (ha : FH n l a) (hcal : ev l c = some (.func (.func f) fst cap)) (hf : P.funcs[f]? = some fn) (hbody : (!(fn.name == "runtime.NumGoroutine") && fn.body.isSome) = true) (hx : evs l xs.toList = some vs) :
    (execOp a.eval o).run P w = .ok (.enter f (fst ++ vs.toArray ++ cap)) w := by
  have hargs : xs.map a.eval = vs.toArray := by
    have := ha.evals hx
    rw [← this, ← Array.toList_map]
  simp [execOp, ho, resolve, hargs, ha.eval hcal, Deferred.ofValue, invoke, run_enter hf hbody, Array.append_assoc]
theorem x_callv_core {o : Oper} {f : FuncId} {fn : Func} {xs : Array Operand} {tys : Array TypeId} {c : Operand} {vs : List Value} {fst cap : Array Value} (ho : lops[i]? = some o) (hgo : Go_ lops n l o) (hop : o.op = .call ⟨.value c, xs, tys⟩) (hd0 : o.dst = some d) (hk : k.getD true = true) (hd : decide (d < n) = true)
    (hcal : ev l c = some (.func (.func f) fst cap)) (hf : P.funcs[f]? = some fn) (hbody : (!(fn.name == "runtime.NumGoroutine") && fn.body.isSome) = true) (hx : evs l xs.toList = some vs) {v : Value}
    (hc : ∀ w, Mem w own ro → Calls P f (fst ++ vs.toArray ++ cap) w fun e w' => e = .returned v ∧ Later w w')
    (h : WX P lops.toArray Q K rest n ((d, v) :: l) own ro) : WX P lops.toArray Q K ((k, i) :: rest) n l own ro := by
  intro a w ha hw
  have hd' : d < n := of_decide_eq_true hd
  have hw1 := hgo a ha
  simp only [wpX, List.getElem?_toArray, ho]
  cases k with
  | none =>
    intro w' hl
    rw [if_pos hw1]
    unfold Oper.wp
    rw [run_callv hop ha hcal hf hbody hx]
    refine Calls.mono (hc w' (hw.later hl)) fun e w2 he => ?_
    obtain ⟨rfl, hl2⟩ := he
    show wpX P lops.toArray Q K rest (a.put o.dst v) w2
    rw [hd0]
    exact h _ w2 (ha.put v hd') ((hw.later hl).later hl2)
  | some b =>
    simp at hk
    subst hk
    dsimp only
    rw [if_pos hw1]
    refine ⟨v, fun w' hl => ?_, by rw [hd0]; exact h _ w (ha.put v hd') hw⟩
    unfold fltAt
    rw [run_callv hop ha hcal hf hbody hx]
    exact ⟨rfl, hc w' (hw.later hl)⟩
theorem x_callv {f : FuncId} {fn : Func} {xs : Array Operand} {tys : Array TypeId} {vs : List Value} (ho : lops[i]? = some ⟨some d, .call ⟨.value (.func f), xs, tys⟩, ty, pos, af, none⟩) (hk : k.getD true = true) (hd : decide (d < n) = true)
    (hf : P.funcs[f]? = some fn) (hbody : (!(fn.name == "runtime.NumGoroutine") && fn.body.isSome) = true) (hx : evs l xs.toList = some vs) {v : Value}
    (hc : ∀ w, Mem w own ro → Calls P f vs.toArray w fun e w' => e = .returned v ∧ Later w w')
    (h : WX P lops.toArray Q K rest n ((d, v) :: l) own ro) : WX P lops.toArray Q K ((k, i) :: rest) n l own ro :=
  x_callv_core (fst := #[]) (cap := #[]) ho (go_none rfl) rfl rfl hk hd rfl hf hbody hx (by simpa using hc) h
theorem x_callb {f : FuncId} {fn : Func} {xs : Array Operand} {tys : Array TypeId} {vs : List Value} (ho : lops[i]? = some ⟨some d, .call ⟨.value (.func f), xs, tys⟩, ty, pos, af, none⟩) (hk : k.getD true = true) (hd : decide (d < n) = true)
    (hf : P.funcs[f]? = some fn) (hbody : (!(fn.name == "runtime.NumGoroutine") && fn.body.isSome) = true) (hx : evs l xs.toList = some vs) {b : Bool}
    (hc : ∀ w, Mem w own ro → Calls P f vs.toArray w fun e w' => e = .returned (.bool b) ∧ Later w w')
    (h : ∀ c, c = b → WX P lops.toArray Q K rest n ((d, .bool c) :: l) own ro) : WX P lops.toArray Q K ((k, i) :: rest) n l own ro :=
  x_callv ho hk hd hf hbody hx hc (h b rfl)
theorem x_call_if {j dj : Nat} {want b : Bool} (gs : List (Bool × Bool)) {f : FuncId} {fn : Func} {xs : Array Operand} {tys : Array TypeId} (ho : lops[i]? = some ⟨some d, .call ⟨.value (.func f), xs, tys⟩, ty, pos, af, some (j, want)⟩) (hj : (lops[j]?).bind (·.dst) = some dj) (hb : l.lookup dj = some (gvl gs (.bool b))) (hk : k.getD true = true) (hd : decide (d < n) = true)
    (hf : P.funcs[f]? = some fn) (hbody : (!(fn.name == "runtime.NumGoroutine") && fn.body.isSome) = true) {v : Value}
    (hc : allg (gs ++ [(b, want)]) → ∃ vs, evs l xs.toList = some vs ∧ ∀ w, Mem w own ro → Calls P f vs.toArray w fun e w' => e = .returned v ∧ Later w w')
    (h : WX P lops.toArray Q K rest n ((d, gvl (gs ++ [(b, want)]) v) :: l) own ro) : WX P lops.toArray Q K ((k, i) :: rest) n l own ro := by
  by_cases hg : allg (gs ++ [(b, want)])
  · obtain ⟨h1, h2⟩ := allg_snoc.1 hg
    obtain ⟨vs, hx, hc⟩ := hc hg
    refine x_callv_core (fst := #[]) (cap := #[]) ho (go_gs rfl hj hb h1 h2) rfl rfl hk hd rfl hf hbody hx (by simpa using hc) ?_
    rwa [gvl_yes hg] at h
  · refine x_pass ho (no_gs rfl hj hb fun h => hg (allg_snoc.2 h)) rfl hd ?_
    rwa [gvl_no hg] at h
theorem x_call_ifb {j dj : Nat} {want b : Bool} (gs : List (Bool × Bool)) {f : FuncId} {fn : Func} {xs : Array Operand} {tys : Array TypeId} (ho : lops[i]? = some ⟨some d, .call ⟨.value (.func f), xs, tys⟩, ty, pos, af, some (j, want)⟩) (hj : (lops[j]?).bind (·.dst) = some dj) (hb : l.lookup dj = some (gvl gs (.bool b))) (hk : k.getD true = true) (hd : decide (d < n) = true)
    (hf : P.funcs[f]? = some fn) (hbody : (!(fn.name == "runtime.NumGoroutine") && fn.body.isSome) = true) {c : Bool}
    (hc : allg (gs ++ [(b, want)]) → ∃ vs, evs l xs.toList = some vs ∧ ∀ w, Mem w own ro → Calls P f vs.toArray w fun e w' => e = .returned (.bool c) ∧ Later w w')
    (h : ∀ c', c' = c → WX P lops.toArray Q K rest n ((d, gvl (gs ++ [(b, want)]) (.bool c')) :: l) own ro) : WX P lops.toArray Q K ((k, i) :: rest) n l own ro :=
  x_call_if gs ho hj hb hk hd hf hbody hc (h c rfl)
theorem x_call_core {o : Oper} {f : FuncId} {fn : Func} {xs : Array Operand} {tys : Array TypeId} {c : Operand} {vs : List Value} {fst cap : Array Value} (ho : lops[i]? = some o) (hgo : Go_ lops n l o) (hop : o.op = .call ⟨.value c, xs, tys⟩) (hd0 : o.dst = some d) (hk : (k == some true) = false) (hd : decide (d < n) = true)
    (hcal : ev l c = some (.func (.func f) fst cap)) (hf : P.funcs[f]? = some fn) (hbody : (!(fn.name == "runtime.NumGoroutine") && fn.body.isSome) = true) (hx : evs l xs.toList = some vs) {R : Value → World → World → Prop}
    (hc : ∀ w, Mem w own ro → Calls P f (fst ++ vs.toArray ++ cap) w fun e w' => ∃ v, e = .returned v ∧ Later w w' ∧ R v w w')
    (h : ∀ v w1 w2, Mem w1 own ro → Later w1 w2 → R v w1 w2 → WX P lops.toArray Q K rest n ((d, v) :: l) own ((w2, notOwn own) :: ro)) : WX P lops.toArray Q K ((k, i) :: rest) n l own ro := by
  intro a w ha hw
  have hd' : d < n := of_decide_eq_true hd
  have hw1 := hgo a ha
  simp only [wpX, List.getElem?_toArray, ho]
  have key : ∀ w', Later w w' → Calls P f (fst ++ vs.toArray ++ cap) w' fun e w'' => ∃ v, e = .returned v ∧ Later w' w'' ∧ wpX P lops.toArray Q K rest (a.put o.dst v) w'' := fun w' hl =>
    Calls.mono (hc w' (hw.later hl)) fun e w2 ⟨v, he, hl2, hr⟩ => ⟨v, he, hl2, by
      rw [hd0]
      exact h v w' w2 (hw.later hl) hl2 hr _ w2 (ha.put v hd') ((hw.later hl).later hl2).snap⟩
  cases k with
  | none =>
    intro w' hl
    rw [if_pos hw1]
    unfold Oper.wp
    rw [run_callv hop ha hcal hf hbody hx]
    refine Calls.mono (key w' hl) fun e w2 he => ?_
    obtain ⟨v, rfl, hl2, hx2⟩ := he
    exact hx2
  | some b =>
    have : b = false := by cases b <;> simp_all
    subst this
    dsimp only
    rw [if_pos hw1]
    intro w' hl
    unfold Oper.wp
    rw [run_callv hop ha hcal hf hbody hx]
    refine Calls.mono (key w' hl) fun e w2 he => ?_
    obtain ⟨v, rfl, hl2, hx2⟩ := he
    exact ⟨hl2, hx2⟩
theorem x_call {f : FuncId} {fn : Func} {xs : Array Operand} {tys : Array TypeId} {vs : List Value} (ho : lops[i]? = some ⟨some d, .call ⟨.value (.func f), xs, tys⟩, ty, pos, af, none⟩) (hk : (k == some true) = false) (hd : decide (d < n) = true)
    (hf : P.funcs[f]? = some fn) (hbody : (!(fn.name == "runtime.NumGoroutine") && fn.body.isSome) = true) (hx : evs l xs.toList = some vs) {R : Value → World → World → Prop}
    (hc : ∀ w, Mem w own ro → Calls P f vs.toArray w fun e w' => ∃ v, e = .returned v ∧ Later w w' ∧ R v w w')
    (h : ∀ v w1 w2, Mem w1 own ro → Later w1 w2 → R v w1 w2 → WX P lops.toArray Q K rest n ((d, v) :: l) own ((w2, notOwn own) :: ro)) : WX P lops.toArray Q K ((k, i) :: rest) n l own ro :=
  x_call_core (fst := #[]) (cap := #[]) ho (go_none rfl) rfl rfl hk hd rfl hf hbody hx (by simpa using hc) h
theorem x_clv {f : FuncId} {fn : Func} {xs : Array Operand} {tys : Array TypeId} {c : Operand} {vs : List Value} {cap : Array Value} (ho : lops[i]? = some ⟨some d, .call ⟨.value c, xs, tys⟩, ty, pos, af, none⟩) (hk : k.getD true = true) (hd : decide (d < n) = true)
    (hcal : ev l c = some (.func (.func f) #[] cap)) (hf : P.funcs[f]? = some fn) (hbody : (!(fn.name == "runtime.NumGoroutine") && fn.body.isSome) = true) (hx : evs l xs.toList = some vs) {v : Value}
    (hc : ∀ w, Mem w own ro → Calls P f (vs.toArray ++ cap) w fun e w' => e = .returned v ∧ Later w w')
    (h : WX P lops.toArray Q K rest n ((d, v) :: l) own ro) : WX P lops.toArray Q K ((k, i) :: rest) n l own ro :=
  x_callv_core (fst := #[]) ho (go_none rfl) rfl rfl hk hd hcal hf hbody hx (by simpa using hc) h
theorem x_clb {f : FuncId} {fn : Func} {xs : Array Operand} {tys : Array TypeId} {c : Operand} {vs : List Value} {cap : Array Value} (ho : lops[i]? = some ⟨some d, .call ⟨.value c, xs, tys⟩, ty, pos, af, none⟩) (hk : k.getD true = true) (hd : decide (d < n) = true)
    (hcal : ev l c = some (.func (.func f) #[] cap)) (hf : P.funcs[f]? = some fn) (hbody : (!(fn.name == "runtime.NumGoroutine") && fn.body.isSome) = true) (hx : evs l xs.toList = some vs) {b : Bool}
    (hc : ∀ w, Mem w own ro → Calls P f (vs.toArray ++ cap) w fun e w' => e = .returned (.bool b) ∧ Later w w')
    (h : ∀ c, c = b → WX P lops.toArray Q K rest n ((d, .bool c) :: l) own ro) : WX P lops.toArray Q K ((k, i) :: rest) n l own ro :=
  x_clv ho hk hd hcal hf hbody hx hc (h b rfl)
theorem v_move {x : Operand} {v : Value} (hx : ev l x = some v) : OpV P n l own ro (.move x) ty v := by
  intro a w o ha _ ho _
  simp [execOp, ho, ha.eval hx]
theorem v_assign {x : Operand} {v : Value} (hx : ev l x = some v) : OpV P n l own ro (.assign x) ty v := by
  intro a w o ha _ ho _
  simp [execOp, ho, ha.eval hx]
theorem v_pick {c x y : Operand} {b : Bool} {v : Value} (hc : ev l c = some (.bool b)) (hv : (if b then ev l x else ev l y) = some v) : OpV P n l own ro (.pick c x y) ty v := by
  intro a w o ha _ ho _
  cases b
  · simp [execOp, ho, ha.eval hc, ha.eval (by simpa using hv : ev l y = some v), asBool]
  · simp [execOp, ho, ha.eval hc, ha.eval (by simpa using hv : ev l x = some v), asBool]
theorem v_and {c x : Operand} {g v : Bool} (hc : ev l c = some (.bool g)) (hx : ev l x = some (gvl [(g, true)] (.bool v))) : OpV P n l own ro (.pick c x (.const (.bool false))) ty (.bool (g && v)) := by
  refine v_pick hc ?_
  cases g
  · rfl
  · simpa [gvl] using hx
theorem v_or {c x : Operand} {g v : Bool} (hc : ev l c = some (.bool g)) (hx : ev l x = some (gvl [(g, false)] (.bool v))) : OpV P n l own ro (.pick c (.const (.bool true)) x) ty (.bool (g || v)) := by
  refine v_pick hc ?_
  cases g
  · simpa [gvl] using hx
  · rfl
theorem v_func {f : FuncId} {cs : List Operand} {vs : List Value} (hx : evs l cs = some vs) : OpV P n l own ro (.makeFunc (.func f) #[] cs.toArray) ty (.func (.func f) #[] vs.toArray) := by
  intro a w o ha _ ho _
  have := ha.evals hx
  simp [execOp, ho, Instr.makeFunc, ← this]
theorem v_not {x : Operand} {b : Bool} {t : TypeId} (hx : ev l x = some (.bool b)) : OpV P n l own ro (.unOp .not t x) ty (.bool (!b)) := by
  intro a w o ha _ ho _
  simp [execOp, ho, ha.eval hx, Op.unary]
theorem v_len_str {x : Operand} {t : TypeId} {s : ByteArray} (ht : P.underlying t = some .string) (hx : ev l x = some (.string s)) : OpV P n l own ro (.call ⟨.builtin .len, #[x], #[t]⟩) ty (.int .i64 s.size) := by
  intro a w o ha _ ho _
  simp [execOp, ho, resolve, invoke, builtin, ha.eval hx, Builtin.len_, run_underlying ht, goInt]
theorem v_len_slice {x : Operand} {t e : TypeId} {A : Option Addr} {m c : Nat} (ht : P.underlying t = some (.slice e)) (hx : ev l x = some (.slice A m c)) : OpV P n l own ro (.call ⟨.builtin .len, #[x], #[t]⟩) ty (.int .i64 m) := by
  intro a w o ha _ ho _
  simp [execOp, ho, resolve, invoke, builtin, ha.eval hx, Builtin.len_, run_underlying ht, goInt]
end
end Go.PK

namespace Go.PK
open Go Go.RowKit
section
variable {P : Program} {n : Nat} {l : List (Nat × Value)} {own : List (Nat × Obj)} {ro : List Snap} {ty : TypeId} {x y : Operand} {t t' : TypeId} {k k' : IntKind} {a b : Int}
theorem v_add (hx : ev l x = some (.int k a)) (hy : ev l y = some (.int k b)) : OpV P n l own ro (.binOp .add t x y t') ty (.int k (k.wrap (a + b))) := by
  intro A w o ha _ ho _
  simp [execOp, ho, ha.eval hx, ha.eval hy, eqGuard, binOp, Op.intArith]
theorem v_sub (hx : ev l x = some (.int k a)) (hy : ev l y = some (.int k b)) : OpV P n l own ro (.binOp .sub t x y t') ty (.int k (k.wrap (a - b))) := by
  intro A w o ha _ ho _
  simp [execOp, ho, ha.eval hx, ha.eval hy, eqGuard, binOp, Op.intArith]
theorem v_mul (hx : ev l x = some (.int k a)) (hy : ev l y = some (.int k b)) : OpV P n l own ro (.binOp .mul t x y t') ty (.int k (k.wrap (a * b))) := by
  intro A w o ha _ ho _
  simp [execOp, ho, ha.eval hx, ha.eval hy, eqGuard, binOp, Op.intArith]
theorem v_quo (hx : ev l x = some (.int k a)) (hy : ev l y = some (.int k b)) (h0 : b ≠ 0) : OpV P n l own ro (.binOp .quo t x y t') ty (.int k (k.wrap (a.tdiv b))) := by
  intro A w o ha _ ho _
  simp [execOp, ho, ha.eval hx, ha.eval hy, eqGuard, binOp, Op.intDiv, h0]
theorem v_rem (hx : ev l x = some (.int k a)) (hy : ev l y = some (.int k b)) (h0 : b ≠ 0) : OpV P n l own ro (.binOp .rem t x y t') ty (.int k (a.tmod b)) := by
  intro A w o ha _ ho _
  simp [execOp, ho, ha.eval hx, ha.eval hy, eqGuard, binOp, Op.intDiv, h0]
theorem wrap_in {n : Int} (h : -9223372036854775808 ≤ n ∧ n ≤ 9223372036854775807) : IntKind.i64.wrap n = n := by
  rw [IntKind.wrap_i64]; omega
theorem v_addi (hx : ev l x = some (.int .i64 a)) (hy : ev l y = some (.int .i64 b)) {c : Int} (hc : a + b = c) (h : -9223372036854775808 ≤ c ∧ c ≤ 9223372036854775807) : OpV P n l own ro (.binOp .add t x y t') ty (.int .i64 c) := by
  have := v_add (P := P) (n := n) (own := own) (ro := ro) (t := t) (t' := t') (ty := ty) hx hy
  rwa [hc, wrap_in h] at this
theorem v_subi (hx : ev l x = some (.int .i64 a)) (hy : ev l y = some (.int .i64 b)) {c : Int} (hc : a - b = c) (h : -9223372036854775808 ≤ c ∧ c ≤ 9223372036854775807) : OpV P n l own ro (.binOp .sub t x y t') ty (.int .i64 c) := by
  have := v_sub (P := P) (n := n) (own := own) (ro := ro) (t := t) (t' := t') (ty := ty) hx hy
  rwa [hc, wrap_in h] at this
theorem v_muli (hx : ev l x = some (.int .i64 a)) (hy : ev l y = some (.int .i64 b)) {c : Int} (hc : a * b = c) (h : -9223372036854775808 ≤ c ∧ c ≤ 9223372036854775807) : OpV P n l own ro (.binOp .mul t x y t') ty (.int .i64 c) := by
  have := v_mul (P := P) (n := n) (own := own) (ro := ro) (t := t) (t' := t') (ty := ty) hx hy
  rwa [hc, wrap_in h] at this
theorem v_quoi (hx : ev l x = some (.int .i64 a)) (hy : ev l y = some (.int .i64 b)) (h0 : b ≠ 0) {c : Int} (hc : a.tdiv b = c) (h : -9223372036854775808 ≤ c ∧ c ≤ 9223372036854775807) : OpV P n l own ro (.binOp .quo t x y t') ty (.int .i64 c) := by
  have := v_quo (P := P) (n := n) (own := own) (ro := ro) (t := t) (t' := t') (ty := ty) hx hy h0
  rwa [hc, wrap_in h] at this
theorem v_lss (hx : ev l x = some (.int k a)) (hy : ev l y = some (.int k b)) : OpV P n l own ro (.binOp .lss t x y t') ty (.bool (decide (a < b))) := by
  intro A w o ha _ ho _
  simp [execOp, ho, ha.eval hx, ha.eval hy, eqGuard, binOp, Op.intCmp]
theorem v_leq (hx : ev l x = some (.int k a)) (hy : ev l y = some (.int k b)) : OpV P n l own ro (.binOp .leq t x y t') ty (.bool (decide (a ≤ b))) := by
  intro A w o ha _ ho _
  simp [execOp, ho, ha.eval hx, ha.eval hy, eqGuard, binOp, Op.intCmp]
theorem v_gtr (hx : ev l x = some (.int k a)) (hy : ev l y = some (.int k b)) : OpV P n l own ro (.binOp .gtr t x y t') ty (.bool (decide (b < a))) := by
  intro A w o ha _ ho _
  simp [execOp, ho, ha.eval hx, ha.eval hy, eqGuard, binOp, Op.intCmp]
theorem v_geq (hx : ev l x = some (.int k a)) (hy : ev l y = some (.int k b)) : OpV P n l own ro (.binOp .geq t x y t') ty (.bool (decide (b ≤ a))) := by
  intro A w o ha _ ho _
  simp [execOp, ho, ha.eval hx, ha.eval hy, eqGuard, binOp, Op.intCmp]
theorem v_eql (hx : ev l x = some (.int k a)) (hy : ev l y = some (.int k b)) : OpV P n l own ro (.binOp .eql t x y t') ty (.bool (decide (a = b))) := by
  intro A w o ha _ ho _
  simp [execOp, ho, ha.eval hx, ha.eval hy, eqGuard, binOp, Op.intCmp]
  rw [Bool.eq_iff_iff]; simp
theorem v_neq (hx : ev l x = some (.int k a)) (hy : ev l y = some (.int k b)) : OpV P n l own ro (.binOp .neq t x y t') ty (.bool (decide (a ≠ b))) := by
  intro A w o ha _ ho _
  simp [execOp, ho, ha.eval hx, ha.eval hy, eqGuard, binOp, Op.intCmp]
  rw [Bool.eq_iff_iff]; simp
theorem v_conv {td : TypeDesc} (hs : P.underlying t = some td) (hd : P.underlying t' = some (.int k')) (hx : ev l x = some (.int k a)) : OpV P n l own ro (.convert t t' x) ty (.int k' (k'.wrap a)) := by
  intro A w o ha _ ho _
  simp [execOp, ho, ha.eval hx, convert, run_underlying hs, run_underlying hd, Conv.intToInt]
variable {s u : ByteArray}
theorem toList_eq {s u : ByteArray} : (s.toList == u.toList) = decide (s = u) := by
  rw [Bool.eq_iff_iff]
  simp only [beq_iff_eq, decide_eq_true_eq]
  constructor
  · intro h
    apply ByteArray.ext
    rw [ByteArray.toList_eq, ByteArray.toList_eq] at h
    exact Array.toList_inj.1 h
  · rintro rfl; rfl
theorem v_seql (hx : ev l x = some (.string s)) (hy : ev l y = some (.string u)) : OpV P n l own ro (.binOp .eql t x y t') ty (.bool (decide (s = u))) := by
  intro A w o ha _ ho _
  simp [execOp, ho, ha.eval hx, ha.eval hy, eqGuard, binOp, Op.stringOp, toList_eq]
theorem v_sneq (hx : ev l x = some (.string s)) (hy : ev l y = some (.string u)) : OpV P n l own ro (.binOp .neq t x y t') ty (.bool (decide (s ≠ u))) := by
  intro A w o ha _ ho _
  simp [execOp, ho, ha.eval hx, ha.eval hy, eqGuard, binOp, Op.stringOp, toList_eq]
theorem v_sadd (hx : ev l x = some (.string s)) (hy : ev l y = some (.string u)) (h : s.size + u.size ≤ 9223372036854775807) : OpV P n l own ro (.binOp .add t x y t') ty (.string (s ++ u)) := by
  intro A w o ha _ ho _
  have := @run_string_add_sum P w s u h
  simp [execOp, ho, ha.eval hx, ha.eval hy, eqGuard, binOp, this]
def byteAt (s : ByteArray) (j : Nat) : UInt8 := s.data.toList.getD j 0
theorem v_fieldAddr {fs : Array Field} {f : Field} {j m b off off' : Nat} (ht : P.underlying t = some (.struct fs)) (hf : fs[j]? = some f) (hs : (P.info? f.type).map (·.size) = some m) (hm : m ≠ 0) (hx : ev l x = some (.pointer (some ⟨b, off, none⟩))) (ho' : off + f.offset = off') :
    OpV P n l own ro (.fieldAddr t x j) ty (.pointer (some ⟨b, off', none⟩)) := by
  intro A w o ha _ ho _
  obtain ⟨inf, hi, hsz⟩ := Option.map_eq_some_iff.1 hs
  have : (Addr.mk b off none).add f.offset = ⟨b, off', none⟩ := by
    unfold Addr.add
    split
    · simp <;> omega
    · simp [ho']
  simp [execOp, ho, ha.eval hx, Instr.fieldAt, run_underlying ht, hf, Instr.sureAddr, fieldPlace, sizeOf, typeInfo, hi, hsz, hm, this]
theorem v_indexAddr {e : TypeId} {j m b off len cap off' : Nat} (ht : P.underlying t = some (.slice e)) (hs : (P.info? e).map (·.size) = some m) (hx : ev l x = some (.slice (some ⟨b, off, none⟩) len cap)) (hy : ev l y = some (.int k (j : Nat))) (hj : j < len) (ho' : off + j * m = off') :
    OpV P n l own ro (.indexAddr t x y) ty (.pointer (some ⟨b, off', none⟩)) := by
  intro A w o ha _ ho _
  obtain ⟨inf, hi, hsz⟩ := Option.map_eq_some_iff.1 hs
  have : (Addr.mk b off none).add (j * m) = ⟨b, off', none⟩ := by
    unfold Addr.add
    split
    · simp <;> omega
    · simp [ho']
  simp [execOp, ho, ha.eval hx, ha.eval hy, Instr.indexAt, run_underlying ht, asIntOf, sizeOf, typeInfo, hi, hsz, hj, this]
end
end Go.PK

namespace Go.PK
open Go Go.RowKit
theorem mk_add (b off j : Nat) : (Addr.mk b off none).add j = ⟨b, off + j, none⟩ := by
  unfold Addr.add
  split
  · subst_vars; rfl
  · rfl
def aggT (d : TypeDesc) : Bool := match d with | .struct _ | .array _ _ => true | _ => false
theorem run_isAgg {P : Program} {w : World} {t : TypeId} {d : TypeDesc} (ht : P.underlying t = some d) : (isAgg t).run P w = .ok (aggT d) w := by
  unfold isAgg aggT
  rw [Sem.run_bind, run_underlying ht w]
  cases d <;> simp
theorem run_sizeOf {P : Program} {w : World} {t : TypeId} {m : Nat} (hs : (P.info? t).map (·.size) = some m) : (sizeOf t).run P w = .ok m w := by
  obtain ⟨inf, hi, hsz⟩ := Option.map_eq_some_iff.1 hs
  simp [sizeOf, typeInfo, hi, hsz]
section
variable {P : Program} {n : Nat} {l : List (Nat × Value)} {own : List (Nat × Obj)} {ro : List Snap} {lops : List Oper} {Q : Exit → Act → World → Prop} {K : Act → World → Prop}
  {rest : List (Option Bool × Nat)} {k : Option Bool} {i d : Nat} {op : Op} {ty : TypeId} {pos : String} {af : Array Edge} {x y : Operand} {t : TypeId} {td : TypeDesc} {b off : Nat}
def At (own : List (Nat × Obj)) (ro : List Snap) (b off : Nat) (v : Value) : Prop := ∀ w, Mem w own ro → w.cell? ⟨b, off, none⟩ = some v
theorem at_own {cs : Array Value} {e : TypeId} {fz : Nat × Nat} {v : Value} (hb : (b, Obj.cells cs e fz) ∈ own) (hv : cs[off]? = some v) : At own ro b off v :=
  fun w hw => (hw.cell_own hb off).trans hv
theorem at_ownL {vs : List Value} {e : TypeId} {fz : Nat × Nat} {v : Value} (hb : (b, Obj.cells vs.toArray e fz) ∈ own) (hv : vs[off]? = some v) : At own ro b off v :=
  at_own hb (by simpa using hv)
theorem at_ro {s : Snap} {v : Value} (hs : s ∈ ro) (hd : s.2 b) (hc : s.1.cell? ⟨b, off, none⟩ = some v) : At own ro b off v :=
  fun w hw => (hw.cell_ro hs (p := ⟨b, off, none⟩) hd (cell_lt (p := ⟨b, off, none⟩) hc)).trans hc
theorem At.more {own' : List (Nat × Obj)} {ro' : List Snap} {v : Value} (h : At own ro b off v) (hm : ∀ w, Mem w own' ro' → Mem w own ro) : At own' ro' b off v := fun w hw => h w (hm w hw)
theorem v_load {v : Value} (ht : P.underlying t = some td) (hd : aggT td = false) (hx : ev l x = some (.pointer (some ⟨b, off, none⟩))) (hc : At own ro b off v) : OpV P n l own ro (.load t x) ty v := by
  intro A w o ha hw ho _
  simp [execOp, ho, ha.eval hx, Instr.loadAt, Instr.sureAddr, loadVar, run_isAgg ht, hd, hc w hw]
theorem v_loadN {vs : List Value} (ht : P.underlying t = some td) (hd : aggT td = true) (hs : (P.info? t).map (·.size) = some vs.length) (hx : ev l x = some (.pointer (some ⟨b, off, none⟩))) (hc : ∀ j (hj : j < vs.length), At own ro b (off + j) vs[j]) :
    OpV P n l own ro (.load t x) ty (.agg vs.toArray) := by
  intro A w o ha hw ho _
  have hl : (loadCells ⟨b, off, none⟩ vs.length).run P w = .ok vs.toArray w := run_loadCells_list (P := P) w ⟨b, off, none⟩ vs (fun j v hv => by
    rw [mk_add]
    obtain ⟨hj, rfl⟩ := List.getElem?_eq_some_iff.1 hv
    exact hc j hj w hw)
  simp [execOp, ho, ha.eval hx, Instr.loadAt, Instr.sureAddr, loadVar, run_isAgg ht, hd, run_sizeOf hs, hl]
theorem v_load_blk {cs : Array Value} {e : TypeId} {fz : Nat × Nat} (ht : P.underlying t = some td) (hd : aggT td = true) (hx : ev l x = some (.pointer (some ⟨b, 0, none⟩))) (hb : (b, Obj.cells cs e fz) ∈ own) (hs : (P.info? t).map (·.size) = some cs.size) :
    OpV P n l own ro (.load t x) ty (.agg cs) := by
  intro A w o ha hw ho _
  have := run_loadVar_row w b e t cs fz td (hw.own_at _ hb) ht (by cases td <;> simp_all [aggT]) hs
  simp [execOp, ho, ha.eval hx, Instr.loadAt, Instr.sureAddr, this]
theorem x_new {o : Oper} (ho : lops[i]? = some o) (hgo : Go_ lops n l o) (hd0 : o.dst = some d) (hk : (k == some true) = false) (hd : decide (d < n) = true) {ob : Obj} {f : Nat → Value}
    (hr : ∀ a w, FH n l a → Mem w own ro → (execOp a.eval o).run P w = .ok (.value (f w.heap.size)) (w.alloc ob))
    (h : ∀ b, WX P lops.toArray Q K rest n ((d, f b) :: l) ((b, ob) :: own) ro) : WX P lops.toArray Q K ((k, i) :: rest) n l own ro := by
  intro a w ha hw
  have hd' : d < n := of_decide_eq_true hd
  have hw1 := hgo a ha
  simp only [wpX, List.getElem?_toArray, ho]
  have key : ∀ w', Later w w' → wpX P lops.toArray Q K rest (a.put o.dst (f w'.heap.size)) (w'.alloc ob) := fun w' hl => by
    rw [hd0]
    exact h _ _ _ (ha.put _ hd') ((hw.later hl).new ob)
  cases k with
  | none =>
    intro w' hl
    rw [if_pos hw1]
    unfold Oper.wp
    rw [hr a w' ha (hw.later hl)]
    exact key w' hl
  | some b =>
    have : b = false := by cases b <;> simp_all
    subst this
    dsimp only
    rw [if_pos hw1]
    intro w' hl
    unfold Oper.wp
    rw [hr a w' ha (hw.later hl)]
    exact ⟨Later.alloc _ _, key w' hl⟩
theorem run_zeroValue {w : World} {e : TypeId} {z : Value} (hz : (P.info? e).bind (·.zero) = some z) : (zeroValue e).run P w = .ok z w := by
  cases hi : P.info? e with
  | none => simp [hi] at hz
  | some inf =>
    have : inf.zero = some z := by simpa [hi] using hz
    simp [zeroValue, typeInfo, hi, this]
theorem x_alloc {z : Value} {e : TypeId} (ho : lops[i]? = some ⟨some d, .alloc e, ty, pos, af, none⟩) (hk : (k == some true) = false) (hd : decide (d < n) = true)
    (hz : (P.info? e).bind (·.zero) = some z)
    (h : ∀ b, WX P lops.toArray Q K rest n ((d, .pointer (some ⟨b, 0, none⟩)) :: l) ((b, .cells z.cells e) :: own) ro) : WX P lops.toArray Q K ((k, i) :: rest) n l own ro :=
  x_new (f := fun b => .pointer (some ⟨b, 0, none⟩)) ho (go_none rfl) rfl hk hd (fun a w ha hw => by
    simp [execOp, Instr.alloc, run_zeroValue hz, newVar, newRow]) h
theorem x_box {v : Value} {e : TypeId} (ho : lops[i]? = some ⟨some d, .box e x, ty, pos, af, none⟩) (hk : (k == some true) = false) (hd : decide (d < n) = true) (hx : ev l x = some v)
    (h : ∀ b, WX P lops.toArray Q K rest n ((d, .pointer (some ⟨b, 0, none⟩)) :: l) ((b, .cells v.cells e) :: own) ro) : WX P lops.toArray Q K ((k, i) :: rest) n l own ro :=
  x_new (f := fun b => .pointer (some ⟨b, 0, none⟩)) ho (go_none rfl) rfl hk hd (fun a w ha hw => by
    simp [execOp, Instr.box, newVar, newRow, ha.eval hx]) h
def evp (l : List (Nat × Value)) : List (Nat × Operand) → Option (List (Nat × Value))
  | [] => some []
  | (j, x) :: r => match ev l x, evp l r with
    | some v, some vs => some ((j, v) :: vs)
    | _, _ => none
theorem FH.evps {a : Act} (h : FH n l a) : ∀ {r : List (Nat × Operand)} {vs : List (Nat × Value)}, evp l r = some vs → r.map (fun p => (p.1, a.eval p.2)) = vs
  | [], vs, hx => by simp [evp] at hx; simp [hx]
  | (j, x) :: r, vs, hx => by
    simp only [evp] at hx
    split at hx
    · rename_i v us hv hus
      cases hx
      simp [h.eval hv, h.evps hus]
    · cases hx
theorem v_build {parts : List (Nat × Operand)} {vs : List (Nat × Value)} {fs : Array Field} {z : Value} {cs : Array Value} {places : Array (Nat × Nat)} (ht : P.underlying t = some (.struct fs)) (hz : (P.info? t).bind (·.zero) = some z)
    (hp : fs.toList.map (fun f => ((P.info? f.type).map fun j => (f.offset, j.size))) = places.toList.map some) (hx : evp l parts = some vs) (hf : Instr.fill (places[·]?) z.cells vs = some cs) :
    OpV P n l own ro (.build t parts.toArray) ty (.agg cs) := by
  intro A w o ha hw ho _
  have hm : ∀ (fs : List Field) (ps : List (Nat × Nat)), fs.map (fun f => ((P.info? f.type).map fun j => (f.offset, j.size))) = ps.map some →
      (fs.mapM fun f => do pure (f.offset, ← sizeOf f.type) : Sem (List (Nat × Nat))).run P w = .ok ps w := by
    intro fs
    induction fs with
    | nil => intro ps hps; cases ps with
      | nil => simp
      | cons _ _ => simp at hps
    | cons f fs ih => intro ps hps; cases ps with
      | nil => simp at hps
      | cons p ps =>
        simp only [List.map_cons, List.cons.injEq] at hps
        obtain ⟨h1, h2⟩ := hps
        cases hi : P.info? f.type with
        | none => simp [hi] at h1
        | some inf =>
          simp [hi] at h1
          have ih2 := ih ps h2
          simp only [List.mapM_cons, Sem.run_bind, run_sizeOf (P := P) (w := w) (t := f.type) (m := inf.size) (by simp [hi]), Result.andThen_ok, Sem.run_pure, h1]
          rw [ih2]
          simp
  have hm2 : (fs.mapM fun f => do pure (f.offset, ← sizeOf f.type) : Sem (Array (Nat × Nat))).run P w = .ok places w := by
    rw [Array.mapM_eq_mapM_toList]
    have := hm fs.toList places.toList hp
    simp only [Sem.run_bind, map_eq_pure_bind, this, Result.andThen_ok, Sem.run_pure]
  have hparts : (parts.toArray.map fun (i, x) => (i, A.eval x)).toList = vs := by
    rw [Array.toList_map]; exact ha.evps hx
  simp only [execOp, ho, Instr.build, Sem.run_bind, run_zeroValue hz, Result.andThen_ok, run_underlying ht, hm2, hparts, hf, Sem.run_pure]
theorem x_buildSlice {parts : List (Nat × Operand)} {vs : List (Nat × Value)} {e : TypeId} {z : Value} {cs : Array Value} {len m : Nat} (ho : lops[i]? = some ⟨some d, .buildSlice t len parts.toArray, ty, pos, af, none⟩) (hk : (k == some true) = false) (hd : decide (d < n) = true)
    (ht : P.underlying t = some (.slice e)) (hs : (P.info? e).map (·.size) = some m) (hz : (P.info? e).bind (·.zero) = some z) (hlen : (decide (len * m ≤ 2 ^ 24) && decide (0 < len * m)) = true) (hx : evp l parts = some vs)
    (hf : Instr.fill (fun j => some (j * m, m)) ((Array.range (len * m)).map (z.cells[· % z.cells.size]!)) vs = some cs)
    (h : ∀ b, WX P lops.toArray Q K rest n ((d, .slice (some ⟨b, 0, none⟩) len len) :: l) ((b, .cells cs e) :: own) ro) : WX P lops.toArray Q K ((k, i) :: rest) n l own ro :=
  x_new (f := fun b => .slice (some ⟨b, 0, none⟩) len len) ho (go_none rfl) rfl hk hd (fun A w ha hw => by
    have hparts : (parts.toArray.map fun (i, x) => (i, A.eval x)).toList = vs := by
      rw [Array.toList_map]; exact ha.evps hx
    simp only [Bool.and_eq_true, decide_eq_true_eq] at hlen
    have h1 : ¬ len * m > 2 ^ 24 := by omega
    have h2 : ¬ len * m = 0 := by omega
    simp only [execOp, Instr.buildSlice, Sem.run_bind, run_underlying ht, Result.andThen_ok, run_sizeOf hs, h1, h2, if_false, run_zeroValue hz, Sem.run_pure, hparts, hf, newRow]
    simp) h
theorem turned_setRow {w : World} {g : Nat} {cs cs' : Array Value} {e : TypeId} (h : w.heap[g]? = some (.cells cs e (0, 0))) : Turned w (w.setRow g cs') g (.cells cs' e (0, 0)) where
  os := rfl
  tape := rfl
  output := rfl
  size := by simp [World.setRow]
  at_ := setRow_heap w g cs cs' e (0, 0) h
  other := fun k hk => by
    simp only [World.setRow, Array.getElem?_modify]
    rw [if_neg (fun e => hk e.symm)]
theorem x_store_core {o : Oper} {v : Value} {l1 l2 : List (Nat × Obj)} {cs : List Value} {e : TypeId} {m : Nat} (ho : lops[i]? = some o) (hgo : Go_ lops n l o) (hop : o.op = .store t x y) (hd0 : o.dst = none) (hx : ev l x = some (.pointer (some ⟨b, off, none⟩))) (hy : ev l y = some v)
    (hs : (P.info? t).map (·.size) = some m) (hm : (decide (v.cells.size = m) && v.cells.toList.all (fun u => u.oneCell')) = true) (hb : off + m ≤ cs.length) (hown : own = l1 ++ (b, .cells cs.toArray e (0, 0)) :: l2)
    (h : WX P lops.toArray Q K rest n l (l1 ++ (b, .cells (cs.take off ++ v.cells.toList ++ cs.drop (off + m)).toArray e (0, 0)) :: l2) ro) : WX P lops.toArray Q K ((none, i) :: rest) n l own ro := by
  subst hown
  intro a w ha hw
  simp only [Bool.and_eq_true, decide_eq_true_eq, List.all_eq_true] at hm
  obtain ⟨hm, h1⟩ := hm
  have hw1 := hgo a ha
  simp only [wpX, List.getElem?_toArray, ho]
  intro w' hl
  rw [if_pos hw1]
  have hM := hw.later hl
  have hg : w'.heap[b]? = some (.cells cs.toArray e (0, 0)) := hM.own_at (b, _) (by simp)
  have hlen : v.cells.toList.length = m := by simpa using hm
  have hst := run_storeCells_at (P := P) b off e v.cells.toList 0 cs.toArray w' hg (by simp only [List.size_toArray]; omega) h1
  have hst2 : (storeVar t ⟨b, off, none⟩ v).run P w' = .ok () (w'.setRow b (cs.take off ++ v.cells.toList ++ cs.drop (off + m)).toArray) := by
    simp only [storeVar, Sem.run_bind, run_sizeOf hs, Result.andThen_ok, hm, ne_eq, not_true, if_false, hst, Nat.add_zero, hlen]
  unfold Oper.wp
  have hrun : (execOp a.eval o).run P w' = .ok .skip (w'.setRow b (cs.take off ++ v.cells.toList ++ cs.drop (off + m)).toArray) := by
    simp only [execOp, hop, ha.eval hx, ha.eval hy, Instr.storeAt, Instr.sureAddr, Sem.run_bind, Sem.run_pure, Result.andThen_ok, hst2]
  rw [hrun]
  show wpX P lops.toArray Q K rest (a.put o.dst undef) _
  rw [hd0]
  exact h a _ ha (hM.turn (turned_setRow hg))
theorem x_store {v : Value} (l1 : List (Nat × Obj)) {l2 : List (Nat × Obj)} {cs : List Value} {e : TypeId} {m : Nat} (ho : lops[i]? = some ⟨none, .store t x y, ty, pos, af, none⟩) (hx : ev l x = some (.pointer (some ⟨b, off, none⟩))) (hy : ev l y = some v)
    (hown : own = l1 ++ (b, .cells cs.toArray e (0, 0)) :: l2) (hs : (P.info? t).map (·.size) = some m) (hm : (decide (v.cells.size = m) && v.cells.toList.all (fun u => u.oneCell')) = true) (hb : off + m ≤ cs.length)
    (h : WX P lops.toArray Q K rest n l (l1 ++ (b, .cells (cs.take off ++ v.cells.toList ++ cs.drop (off + m)).toArray e (0, 0)) :: l2) ro) : WX P lops.toArray Q K ((none, i) :: rest) n l own ro :=
  x_store_core ho (go_none rfl) rfl rfl hx hy hs hm hb hown h
theorem v_indexArr {e : TypeId} {N j m b off off' : Nat} {kk : IntKind} (ht : P.underlying t = some (.array N e)) (hs : (P.info? e).map (·.size) = some m) (hx : ev l x = some (.pointer (some ⟨b, off, none⟩))) (hy : ev l y = some (.int kk (j : Nat))) (hj : j < N) (ho' : off + j * m = off') :
    OpV P n l own ro (.indexAddr t x y) ty (.pointer (some ⟨b, off', none⟩)) := by
  intro A w o ha _ ho _
  obtain ⟨inf, hi, hsz⟩ := Option.map_eq_some_iff.1 hs
  have : (Addr.mk b off none).add (j * m) = ⟨b, off', none⟩ := by rw [mk_add, ho']
  simp [execOp, ho, ha.eval hx, ha.eval hy, Instr.indexAt, run_underlying ht, asIntOf, Instr.sureAddr, sizeOf, typeInfo, hi, hsz, hj, this]
theorem x_store0 {v : Value} (l1 : List (Nat × Obj)) {l2 : List (Nat × Obj)} {cs : Array Value} {e : TypeId} {m : Nat} (ho : lops[i]? = some ⟨none, .store t x y, ty, pos, af, none⟩) (hx : ev l x = some (.pointer (some ⟨b, 0, none⟩))) (hy : ev l y = some v)
    (hown : own = l1 ++ (b, .cells cs e (0, 0)) :: l2) (hs : (P.info? t).map (·.size) = some m) (hm : (decide (v.cells.size = m) && v.cells.toList.all (fun u => u.oneCell')) = true) (hb : cs.size = m)
    (h : WX P lops.toArray Q K rest n l (l1 ++ (b, .cells v.cells e (0, 0)) :: l2) ro) : WX P lops.toArray Q K ((none, i) :: rest) n l own ro := by
  have hsz : v.cells.size = m := by simp only [Bool.and_eq_true, decide_eq_true_eq] at hm; exact hm.1
  refine x_store_core (cs := cs.toList) ho (go_none rfl) rfl rfl hx hy hs hm (by simp [hb]) (by simpa using hown) ?_
  have e1 : (cs.toList.take 0 ++ v.cells.toList ++ cs.toList.drop (0 + m)).toArray = v.cells := by
    rw [List.take_zero, List.drop_eq_nil_of_le (by simp [hb])]
    simp
  rw [e1]
  exact h
theorem v_scut_to {e : TypeId} {A : Option Addr} {len cap j m : Nat} {kk : IntKind} (ht : P.underlying t = some (.slice e)) (hs : (P.info? e).map (·.size) = some m) (hx : ev l x = some (.slice A len cap)) (hy : ev l y = some (.int kk (j : Nat))) (hj : j ≤ cap) :
    OpV P n l own ro (.slice t x none (some y) none) ty (.slice A j cap) := by
  intro a w o ha hw ho _
  have h2 : (Instr.sliceAt t (.slice A len cap) none (some (.int kk (j : Nat))) none).run P w = .ok (.slice A j cap) w := by
    have hA : (if cap = 0 then A else A.map (fun a => a.add (0 * m))) = A := by
      split
      · rfl
      · cases A with
        | none => rfl
        | some a => simp [Addr.add]
    simp [Instr.sliceAt, Instr.slice, Instr.sliceBounds, Instr.sliceBound, asIntOf, run_underlying ht, hj, run_sizeOf hs]
    simpa using hA
  simp [execOp, ho, ha.eval hx, ha.eval hy, h2]
end
end Go.PK

namespace Go.PK
open Go Go.RowKit
def slots : Nat → List Value → List (Nat × Value)
  | _, [] => []
  | i, v :: vs => (i, v) :: slots (i + 1) vs
theorem slots_lookup : ∀ (vs : List Value) (i s : Nat) (v : Value), (slots i vs).lookup s = some v → i ≤ s ∧ vs[s - i]? = some v
  | [], _, _, _, h => by simp [slots] at h
  | u :: us, i, s, v, h => by
    simp only [slots, List.lookup_cons] at h
    by_cases hs : s = i
    · subst hs; simp at h; simp [h]
    · have : (s == i) = false := by simpa using hs
      simp only [this] at h
      obtain ⟨h1, h2⟩ := slots_lookup us (i + 1) s v h
      refine ⟨by omega, ?_⟩
      rw [show s - i = (s - (i + 1)) + 1 by omega]
      simpa using h2
section
variable {P : Program} {n : Nat} {l : List (Nat × Value)} {own : List (Nat × Obj)} {ro : List Snap} {Q : Exit → Act → World → Prop} {K : Act → World → Prop} {R : Ending → World → Prop} {fn : Func}
theorem enter {f : FuncId} {c : Code} {vs : List Value} {w : World} (hf : P.funcs[f]? = some fn) (hb : fn.body = some c) (hn : fn.ntmps = n) (hv : decide (vs.length ≤ n) = true)
    (h : W P c (bodyPost P fn R) n (slots 0 vs) [] [(w, fun _ => True)]) : Calls P f vs.toArray w R := by
  have hv' := of_decide_eq_true hv
  refine calls_of_wp hf hb (h _ w ⟨by simp [hn]; omega, rfl, fun s v hs => ?_⟩ (Mem.init w))
  obtain ⟨_, h2⟩ := slots_lookup _ _ _ _ hs
  simp only [Nat.sub_zero] at h2
  have hlt : s < vs.length := (List.getElem?_eq_some_iff.1 h2).1
  show (vs.toArray ++ _)[s]? = some v
  rw [Array.getElem?_append_left (by simpa using hlt)]
  simpa using h2
theorem t_ret {K : Act → World → Prop} (h : S (Q .ret) n l own ro) : S (Exit.then K Q .ret) n l own ro := h
theorem t_exit {K : Act → World → Prop} {id : Nat} (h : S (Q (.exit id)) n l own ro) : S (Exit.then K Q (.exit id)) n l own ro := h
theorem t_norm {y : Code} (h : W P y Q n l own ro) : S (Exit.then (y.wp P Q) Q .normal) n l own ro := h
theorem b_ret {id : Nat} (h : S (Q .ret) n l own ro) : S (Exit.inBlock id Q .ret) n l own ro := h
theorem b_norm {id : Nat} (h : S (Q .normal) n l own ro) : S (Exit.inBlock id Q .normal) n l own ro := h
theorem b_hit {id : Nat} (h : S (Q .normal) n l own ro) : S (Exit.inBlock id Q (.exit id)) n l own ro := fun a w ha hw => by
  simp only [Exit.inBlock, if_true]; exact h a w ha hw
theorem b_miss {id id' : Nat} (hne : decide (id' = id) = false) (h : S (Q (.exit id')) n l own ro) : S (Exit.inBlock id Q (.exit id')) n l own ro := fun a w ha hw => by
  simp only [Exit.inBlock, of_decide_eq_false hne, if_false]; exact h a w ha hw
theorem l_norm {σ : Type} {I : σ → Prop} {L : σ → List (Nat × Value)} {O : σ → List (Nat × Obj)} {Rr : σ → List Snap} {μ : σ → Nat} {x : σ} (x' : σ) (hI : I x') (hlt : μ x' < μ x) (hs : Sub (L x') l) (hm : ∀ w, Mem w own ro → Mem w (O x') (Rr x')) :
    S (Exit.then (fun a w => ∃ x', I x' ∧ μ x' < μ x ∧ FH n (L x') a ∧ Mem w (O x') (Rr x')) Q .normal) n l own ro :=
  fun a w ha hw => ⟨x', hI, hlt, ha.sub hs, hm w hw⟩
theorem w_seq_cut {σ : Type} {x y : Code} (I : σ → Prop) (L : σ → List (Nat × Value)) (O : σ → List (Nat × Obj)) (Rr : σ → List Snap)
    (h1 : W P x (Exit.then (fun a w => ∃ x', I x' ∧ FH n (L x') a ∧ Mem w (O x') (Rr x')) Q) n l own ro) (h2 : ∀ x', I x' → W P y Q n (L x') (O x') (Rr x')) : W P (.seq x y) Q n l own ro :=
  fun a w ha hw => wp_seq (wp_mono (h1 a w ha hw) fun e a' w' hq => by
    cases e with
    | normal => obtain ⟨x', h0, h3, h4⟩ := hq; exact h2 x' h0 a' w' h3 h4
    | exit _ => exact hq
    | goto _ => exact hq
    | ret => exact hq
    | panic _ => exact hq
    | outgrown => exact hq)
theorem c_norm {σ : Type} {I : σ → Prop} {L : σ → List (Nat × Value)} {O : σ → List (Nat × Obj)} {Rr : σ → List Snap} (x' : σ) (hI : I x') (hs : Sub (L x') l) (hm : ∀ w, Mem w own ro → Mem w (O x') (Rr x')) :
    S (Exit.then (fun a w => ∃ x', I x' ∧ FH n (L x') a ∧ Mem w (O x') (Rr x')) Q .normal) n l own ro :=
  fun a w ha hw => ⟨x', hI, ha.sub hs, hm w hw⟩
theorem l_start {L' : List (Nat × Value)} {O' : List (Nat × Obj)} {R' : List Snap} (hs : Sub L' l) (hm : ∀ w, Mem w own ro → Mem w O' R') : ∀ a w, FH n l a → Mem w own ro → FH n L' a ∧ Mem w O' R' :=
  fun a w ha hw => ⟨ha.sub hs, hm w hw⟩
theorem ret1 {t : Tmp} {v : Value} (hr : fn.results = #[.tmp t]) (hv : l.lookup t = some v) (h : ∀ w', Mem w' own ro → R (.returned v) w') : S (bodyPost P fn R .ret) n l own ro := by
  intro a w ha hw
  refine ⟨ha.df, v, ?_, h w hw⟩
  have := ha.at_ t v hv
  rw [results_tmp hr]
  simp [Array.getD_eq_getD_getElem?, this]
theorem ret2 {t u : Tmp} {v v' : Value} (hr : fn.results = #[.tmp t, .tmp u]) (hv : l.lookup t = some v) (hv' : l.lookup u = some v') (h : ∀ w', Mem w' own ro → R (.returned (.tuple #[v, v'])) w') : S (bodyPost P fn R .ret) n l own ro := by
  intro a w ha hw
  refine ⟨ha.df, _, ?_, h w hw⟩
  rw [results_tmp2 hr]
  simp [Array.getD_eq_getD_getElem?, ha.at_ t v hv, ha.at_ u v' hv']
theorem ret0 (hr : fn.results = #[]) (h : ∀ w', Mem w' own ro → R (.returned (.tuple #[])) w') : S (bodyPost P fn R .normal) n l own ro := by
  intro a w ha hw
  exact ⟨ha.df, _, results_none hr _ _ _, h w hw⟩
theorem retc {t : Tmp} {ty : TypeId} {td : TypeDesc} {b : Nat} {cs : Array Value} {e : TypeId} {fz : Nat × Nat} (hr : fn.results = #[.cell t ty]) (hv : l.lookup t = some (.pointer (some ⟨b, 0, none⟩))) (hb : (b, Obj.cells cs e fz) ∈ own)
    (ht : P.underlying ty = some td) (hd : aggT td = true) (hs : (P.info? ty).map (·.size) = some cs.size) (h : ∀ w', Mem w' own ro → R (.returned (.agg cs)) w') : S (bodyPost P fn R .ret) n l own ro := by
  intro a w ha hw
  refine ⟨ha.df, _, ?_, h w hw⟩
  exact results_cell_row hr a.tmps w b e cs fz td (by simp [Array.getD_eq_getD_getElem?, ha.at_ t _ hv]) (hw.own_at _ hb) ht (by cases td <;> simp_all [aggT]) hs
end
end Go.PK

namespace Go.PK
open Go Go.RowKit
structure Ty (α : Type) where
  size : Nat
  rd : (Nat → Prop) → World → List Value → α → Prop
  len : ∀ {D w cs x}, rd D w cs x → cs.length = size
  keep : ∀ {D D' : Nat → Prop} {w w' cs x}, rd D w cs x → (∀ k, D k → k < w.heap.size → D' k ∧ w'.heap[k]? = w.heap[k]?) → rd D' w' cs x
def Kept (D D' : Nat → Prop) (w w' : World) : Prop := ∀ k, D k → k < w.heap.size → D' k ∧ w'.heap[k]? = w.heap[k]?
theorem Kept.later {D : Nat → Prop} {w w' : World} (h : Later w w') : Kept D D w w' := fun k hk hlt => ⟨hk, h.block k hlt⟩
theorem Kept.all {D : Nat → Prop} {w w' : World} (h : Later w w') : Kept D (fun _ => True) w w' := fun k hk hlt => ⟨trivial, h.block k hlt⟩
theorem Kept.snap {own : List (Nat × Obj)} {ro : List Snap} {w : World} {s : Snap} {D' : Nat → Prop} (h : Mem w own ro) (hs : s ∈ ro) (hd : ∀ k, s.2 k → k < s.1.heap.size → D' k) : Kept s.2 D' s.1 w :=
  fun k hk hlt => ⟨hd k hk hlt, h.ro_at s hs k hk hlt⟩
def sliceRd {α : Type} (T : Ty α) (D : Nat → Prop) (w : World) (v : Value) (xs : List α) : Prop :=
  ∃ A c, v = .slice A xs.length c ∧ xs.length ≤ c ∧ xs.length ≤ 9223372036854775807 ∧
    (0 < xs.length → ∃ b off, A = some ⟨b, off, none⟩ ∧ D b ∧ b < w.heap.size ∧
      ∀ j (hj : j < xs.length), ∃ cs, (∀ i (hi : i < cs.length), w.cell? ⟨b, off + j * T.size + i, none⟩ = some cs[i]) ∧ T.rd D w cs xs[j])
theorem cell_keep {w w' : World} {b off : Nat} (h : w'.heap[b]? = w.heap[b]?) : w'.cell? ⟨b, off, none⟩ = w.cell? ⟨b, off, none⟩ := World.cell?_of_block (w := w) h
theorem sliceRd.keep {α : Type} {T : Ty α} {D D' : Nat → Prop} {w w' : World} {v : Value} {xs : List α} (h : sliceRd T D w v xs) (hk : Kept D D' w w') : sliceRd T D' w' v xs := by
  obtain ⟨A, c, hv, h1, h2, h3⟩ := h
  refine ⟨A, c, hv, h1, h2, fun hl => ?_⟩
  obtain ⟨b, off, hA, hD, hb, hc⟩ := h3 hl
  obtain ⟨hD', hblk⟩ := hk b hD hb
  refine ⟨b, off, hA, hD', ?_, fun j hj => ?_⟩
  · obtain ⟨cs, h4, h5⟩ := hc 0 hl
    have hh : ∃ o, w.heap[b]? = some o := ⟨_, Array.getElem?_eq_getElem hb⟩
    obtain ⟨o, ho⟩ := hh
    exact heap_lt (hblk.trans ho)
  · obtain ⟨cs, h4, h5⟩ := hc j hj
    exact ⟨cs, fun i hi => (cell_keep hblk).trans (h4 i hi), T.keep h5 hk⟩
theorem sliceRd.take {α : Type} {T : Ty α} {D : Nat → Prop} {w : World} {A : Option Addr} {c : Nat} {xs : List α} (j : Nat) (hj : j ≤ xs.length) (h : sliceRd T D w (.slice A xs.length c) xs) : sliceRd T D w (.slice A j c) (xs.take j) := by
  obtain ⟨A', c', hv, h1, h2, h3⟩ := h
  injection hv with e1 e2 e3
  subst e1 e3
  have hl : (xs.take j).length = j := by simp; omega
  refine ⟨A, c, by rw [hl], by omega, by omega, fun h0 => ?_⟩
  rw [hl] at h0
  obtain ⟨b, off, hA, hD, hb, hc⟩ := h3 (by omega)
  refine ⟨b, off, hA, hD, hb, fun i hi => ?_⟩
  rw [hl] at hi
  obtain ⟨cs, h4, h5⟩ := hc i (by omega)
  exact ⟨cs, h4, by rw [List.getElem_take]; exact h5⟩
def okS (s : ByteArray) : Prop := s.size ≤ 9223372036854775807
def tyStr : Ty ByteArray where
  size := 1
  rd := fun _ _ cs x => cs = [.string x] ∧ okS x
  len := fun h => by rw [h.1]; rfl
  keep := fun h _ => h
def tySlice {α : Type} (T : Ty α) : Ty (List α) where
  size := 1
  rd := fun D w cs xs => ∃ v, cs = [v] ∧ sliceRd T D w v xs
  len := fun ⟨v, h, _⟩ => by rw [h]; rfl
  keep := fun ⟨v, h, h2⟩ hk => ⟨v, h, h2.keep hk⟩
structure Sb where
  code : UInt8
  text : ByteArray
deriving DecidableEq
def tySb : Ty Sb where
  size := 2
  rd := fun _ _ cs x => cs = [.int .u8 x.code.toNat, .string x.text] ∧ okS x.text
  len := fun h => by rw [h.1]; rfl
  keep := fun h _ => h
structure Fl where
  tag : ByteArray
  ind : ByteArray
  data : ByteArray
  subs : List Sb
deriving DecidableEq
def Fl.ok (f : Fl) : Prop := okS f.tag ∧ okS f.ind ∧ okS f.data
def tyFl : Ty Fl where
  size := 4
  rd := fun D w cs x => ∃ v, cs = [.string x.tag, .string x.ind, .string x.data, v] ∧ x.ok ∧ sliceRd tySb D w v x.subs
  len := fun ⟨v, h, _⟩ => by rw [h]; rfl
  keep := fun ⟨v, h, h2, h3⟩ hk => ⟨v, h, h2, h3.keep hk⟩
structure Rl where
  tag : ByteArray
  must : Bool
  once : Bool
  i0 : ByteArray
  i1 : ByteArray
  codes : ByteArray
  single : ByteArray
deriving DecidableEq
def Rl.ok (r : Rl) : Prop := okS r.tag ∧ okS r.i0 ∧ okS r.i1 ∧ okS r.codes ∧ okS r.single
def Rl.cells (r : Rl) : List Value := [.string r.tag, .bool r.must, .bool r.once, .string r.i0, .string r.i1, .string r.codes, .string r.single]
end Go.PK

namespace Go.PK
open Go Go.RowKit
def okM (p t : ByteArray) (k : Nat) : Prop := byteAt t k = byteAt p k ∨ byteAt p k = 120 ∧ 48 ≤ (byteAt t k).toNat ∧ (byteAt t k).toNat ≤ 57
instance (p t : ByteArray) (k : Nat) : Decidable (okM p t k) := by unfold okM; infer_instance
def mtc (p t : ByteArray) : Bool := decide (p.size = t.size ∧ ∀ k, k < t.size → okM p t k)
def fidx {α : Type} (p : α → Bool) (xs : List α) : Int := match xs.findIdx? p with | some i => (i : Nat) | none => -1
theorem fidx_at {α : Type} {p : α → Bool} {xs : List α} {k : Nat} (hk : k < xs.length) (h : p xs[k] = true) (hn : ∀ j (hj : j < xs.length), j < k → p xs[j] = false) : fidx p xs = k := by
  unfold fidx
  have : xs.findIdx? p = some k := by
    rw [List.findIdx?_eq_some_iff_getElem]
    exact ⟨hk, h, fun j hj => by rw [hn j (by omega) hj]; exact Bool.false_ne_true⟩
  rw [this]
theorem fidx_none {α : Type} {p : α → Bool} {xs : List α} (hn : ∀ j (hj : j < xs.length), p xs[j] = false) : fidx p xs = -1 := by
  unfold fidx
  have : xs.findIdx? p = none := by
    rw [List.findIdx?_eq_none_iff]
    intro x hx
    obtain ⟨j, hj, rfl⟩ := List.mem_iff_getElem.1 hx
    exact hn j hj
  rw [this]
theorem fidx_nn {α : Type} (p : α → Bool) (xs : List α) : (0 ≤ fidx p xs) ↔ xs.any p = true := by
  unfold fidx
  cases h : xs.findIdx? p with
  | none =>
    simp only [List.any_eq_true]
    rw [List.findIdx?_eq_none_iff] at h
    constructor
    · intro h0; omega
    · rintro ⟨x, hx, hp⟩; rw [h x hx] at hp; cases hp
  | some i =>
    simp only [List.any_eq_true]
    obtain ⟨hi, hp, _⟩ := List.findIdx?_eq_some_iff_getElem.1 h
    exact ⟨fun _ => ⟨_, List.getElem_mem hi, hp⟩, fun _ => by omega⟩
def plC (v : Value) (n : Int) (r : Rl) : List Value := [v, .int .i64 n, .string r.tag, .bool r.must, .bool r.once, .string r.i0, .string r.i1, .string r.codes, .string r.single]
def flC (f : Fl) (B : Option Addr) (c : Nat) : List Value := [.string f.tag, .string f.ind, .string f.data, .slice B f.subs.length c]
structure FAt (w : World) (v : Value) (n : Nat) (f : Fl) (B : Option Addr) (c : Nat) : Prop where
  ex : ∃ b off len cap, v = .slice (some ⟨b, off, none⟩) len cap ∧ n < len ∧ len ≤ 9223372036854775807 ∧ ∀ i (hi : i < (flC f B c).length), w.cell? ⟨b, off + n * 4 + i, none⟩ = some (flC f B c)[i]
theorem FAt.later {w w' : World} {v : Value} {n : Nat} {f : Fl} {B : Option Addr} {c : Nat} (h : FAt w v n f B c) (hl : Later w w') : FAt w' v n f B c := by
  obtain ⟨b, off, len, cap, h1, h2, h3, h4⟩ := h.ex
  exact ⟨b, off, len, cap, h1, h2, h3, fun i hi => (hl.cell (p := ⟨b, off + n * 4 + i, none⟩) (cell_lt (h4 i hi))).trans (h4 i hi)⟩
def PAt (w : World) (q : Nat) (v : Value) (n : Int) (r : Rl) : Prop := ∀ i (hi : i < (plC v n r).length), w.cell? ⟨q, i, none⟩ = some (plC v n r)[i]
theorem PAt.later {w w' : World} {q : Nat} {v : Value} {n : Int} {r : Rl} (h : PAt w q v n r) (hl : Later w w') : PAt w' q v n r := fun i hi => (hl.cell (p := ⟨q, i, none⟩) (cell_lt (h i hi))).trans (h i hi)
end Go.PK

namespace Go.PK
open Go Go.RowKit
abbrev RowS := Option (Nat × List Value × Nat)
def rowA (r : RowS) : Option Addr := r.map fun x => ⟨x.1, 0, none⟩
def rowC (r : RowS) : Nat := match r with | none => 0 | some x => x.2.2
def rowV (r : RowS) (n : Nat) : Value := .slice (rowA r) n (rowC r)
def rowO (e : TypeId) (r : RowS) : List (Nat × Obj) := match r with | none => [] | some x => [(x.1, .cells x.2.1.toArray e (0, 0))]
def rowOK (size : Nat) (r : RowS) (n : Nat) (xs : List Value) : Prop :=
  xs.length = n * size ∧ match r with | none => n = 0 | some x => n ≤ x.2.2 ∧ x.2.2 ≤ maxLen ∧ x.2.1.length = x.2.2 * size ∧ x.2.1.take (n * size) = xs
theorem rowOK_nil {size : Nat} : rowOK size none 0 [] := ⟨by simp, rfl⟩
theorem rowOK_lit {size n b : Nat} {cs : List Value} (h : cs.length = n * size) (hm : n ≤ maxLen) : rowOK size (some (b, cs, n)) n cs := ⟨h, Nat.le_refl _, hm, h, by rw [← h, List.take_length]⟩
theorem rowOK.cell {size : Nat} {r : RowS} {n : Nat} {xs : List Value} (h : rowOK size r n xs) {j : Nat} (hj : j < xs.length) : ∃ b cs c, r = some (b, cs, c) ∧ cs[j]? = some xs[j] := by
  obtain ⟨h1, h2⟩ := h
  cases r with
  | none => simp only at h2; subst h2; simp at h1; subst h1; simp at hj
  | some x =>
    obtain ⟨b, cs, c⟩ := x
    obtain ⟨_, _, h3, h4⟩ := h2
    refine ⟨b, cs, c, rfl, ?_⟩
    subst h4
    rw [List.getElem_take, List.getElem?_eq_getElem]
section
variable {w w' : World} {ro : List Snap}
theorem row_owns {own l1 l2 : List (Nat × Obj)} {e : TypeId} {size n : Nat} {r : RowS} {xs : List Value} (hm : Mem w (l1 ++ rowO e r ++ l2) ro) (h : rowOK size r n xs) :
    w.ownsRow 0 e size (rowV r n) n xs := by
  obtain ⟨h1, h2⟩ := h
  refine ⟨h1, ?_⟩
  cases r with
  | none => left; simp only at h2; subst h2; exact ⟨rfl, rfl⟩
  | some x =>
    obtain ⟨b, cs, c⟩ := x
    obtain ⟨h3, h4, h5, h6⟩ := h2
    exact .inr ⟨b, c, cs.toArray, rfl, Nat.zero_le _, hm.own_at (b, _) (by simp [rowO]), h3, h4, by simpa using h5, by simpa using h6⟩
theorem Mem.append {l1 l2 : List (Nat × Obj)} {e : TypeId} {size n n' : Nat} {r : RowS} {v' : Value} {xs' : List Value} (hm : Mem w (l1 ++ rowO e r ++ l2) ro) (h' : w'.ownsRow 0 e size v' n' xs') (hg : w.grownBy w' (rowV r n).ownBlock)
    (hb : v'.ownBlock = (rowV r n).ownBlock ∨ v'.ownBlock = some w.heap.size) : ∃ r', v' = rowV r' n' ∧ rowOK size r' n' xs' ∧ Mem w' (l1 ++ rowO e r' ++ l2) ro := by
  have hkeep : ∀ k, k < w.heap.size → (∀ b cs c, r = some (b, cs, c) → k ≠ b) → w'.heap[k]? = w.heap[k]? := fun k hk hne => hg.block k hk (by
    cases r with
    | none => simp [rowV, rowA, Value.ownBlock]
    | some x => obtain ⟨b, cs, c⟩ := x; simpa [rowV, rowA, Value.ownBlock] using hne b cs c rfl)
  -- the blocks beside the row
  have hside : ∀ p, p ∈ l1 ∨ p ∈ l2 → p.1 < w.heap.size ∧ w.heap[p.1]? = some p.2 ∧ ∀ b cs c, r = some (b, cs, c) → p.1 ≠ b := by
    intro p hp
    have hmem : p ∈ l1 ++ rowO e r ++ l2 := by
      rcases hp with hp | hp <;> simp [hp]
    refine ⟨hm.lt hmem, hm.own_at p hmem, fun b cs c hr he => ?_⟩
    subst hr
    have hnd := hm.own_nd
    simp only [rowO, List.map_append, List.map_cons, List.map_nil] at hnd
    rw [List.nodup_append, List.nodup_append] at hnd
    obtain ⟨⟨_, _, h3⟩, _, h4⟩ := hnd
    rcases hp with hp | hp
    · exact h3 p.1 (List.mem_map_of_mem hp) b (by simp) he
    · exact h4 b (by simp) p.1 (List.mem_map_of_mem hp) he.symm
  have hro_st : ∀ s ∈ ro, w'.os = s.1.os ∧ w'.tape = s.1.tape ∧ w'.output = s.1.output ∧ s.1.heap.size ≤ w'.heap.size := fun s hs => by
    obtain ⟨a1, a2, a3, a4⟩ := hm.ro_st s hs
    exact ⟨hg.os.trans a1, hg.tape.trans a2, hg.output.trans a3, Nat.le_trans a4 hg.size⟩
  have hro_at : ∀ s ∈ ro, ∀ k, s.2 k → k < s.1.heap.size → w'.heap[k]? = s.1.heap[k]? := fun s hs k hk hlt => by
    refine (hkeep k (Nat.lt_of_lt_of_le hlt (hm.ro_st s hs).2.2.2) fun b cs c hr he => ?_).trans (hm.ro_at s hs k hk hlt)
    subst hr
    have := hm.apart (b, Obj.cells cs.toArray e (0, 0)) (by simp [rowO]) s hs (by rw [← he]; exact hk)
    simp only at this
    omega
  have hmid : ∀ b, ((∃ cs c, r = some (b, cs, c)) ∨ b = w.heap.size) → ∀ s ∈ ro, s.2 b → s.1.heap.size ≤ b := fun b hb s hs hd => by
    rcases hb with ⟨cs, c, rfl⟩ | rfl
    · exact hm.apart (b, Obj.cells cs.toArray e (0, 0)) (by simp [rowO]) s hs hd
    · exact (hm.ro_st s hs).2.2.2
  obtain ⟨h1, h2⟩ := h'
  rcases h2 with ⟨rfl, rfl⟩ | ⟨g, cap, cur, rfl, _, hh, hnc, hcm, hcs, htk⟩
  · refine ⟨none, rfl, ⟨h1, rfl⟩, ?_, ?_, hro_st, hro_at, ?_⟩
    · intro p hp
      have hp' : p ∈ l1 ∨ p ∈ l2 := by simpa [rowO] using hp
      obtain ⟨a1, a2, a3⟩ := hside p hp'
      exact (hkeep p.1 a1 a3).trans a2
    · have hnd := hm.own_nd
      simp only [rowO, List.append_nil]
      exact ((List.sublist_append_left l1 (rowO e r)).append (List.Sublist.refl l2) |>.map _).nodup hnd
    · intro p hp s hs hd
      have hp' : p ∈ l1 ∨ p ∈ l2 := by simpa [rowO] using hp
      exact hm.apart p (by rcases hp' with h | h <;> simp [h]) s hs hd
  · have hgb : (∃ cs c, r = some (g, cs, c)) ∨ g = w.heap.size := by
      rcases hb with hb | hb
      · cases r with
        | none => simp [rowV, rowA, Value.ownBlock] at hb
        | some x => obtain ⟨b, cs, c⟩ := x; simp [rowV, rowA, Value.ownBlock] at hb; subst hb; exact .inl ⟨cs, c, rfl⟩
      · simp [Value.ownBlock] at hb; exact .inr hb
    have hgne : ∀ p, p ∈ l1 ∨ p ∈ l2 → p.1 ≠ g := fun p hp he => by
      obtain ⟨a1, _, a3⟩ := hside p hp
      rcases hgb with ⟨cs, c, hr⟩ | hg'
      · exact a3 g cs c hr he
      · omega
    refine ⟨some (g, cur.toList, cap), by simp [rowV, rowA, rowC], ⟨h1, hnc, hcm, by simpa using hcs, htk⟩, ?_, ?_, hro_st, hro_at, ?_⟩
    · intro p hp
      simp only [rowO, List.mem_append, List.mem_singleton] at hp
      rcases hp with (hp | rfl) | hp
      · obtain ⟨a1, a2, a3⟩ := hside p (.inl hp); exact (hkeep p.1 a1 a3).trans a2
      · simpa using hh
      · obtain ⟨a1, a2, a3⟩ := hside p (.inr hp); exact (hkeep p.1 a1 a3).trans a2
    · have hnd := hm.own_nd
      simp only [List.map_append] at hnd
      rw [List.nodup_append, List.nodup_append] at hnd
      obtain ⟨⟨b1, _, _⟩, b2, b3⟩ := hnd
      simp only [rowO, List.map_append, List.map_cons, List.map_nil]
      rw [List.nodup_append, List.nodup_append]
      refine ⟨⟨b1, by simp, fun x hx y hy => ?_⟩, b2, fun x hx y hy => ?_⟩
      · obtain ⟨p, hp, rfl⟩ := List.mem_map.1 hx
        simp only [List.mem_singleton] at hy
        subst hy
        exact hgne p (.inl hp)
      · simp only [List.mem_append, List.mem_singleton] at hx
        rcases hx with hx | rfl
        · exact b3 x (by simp [hx]) y hy
        · obtain ⟨p, hp, rfl⟩ := List.mem_map.1 hy
          exact fun e => hgne p (.inr hp) e.symm
    · intro p hp s hs hd
      simp only [rowO, List.mem_append, List.mem_singleton] at hp
      rcases hp with (hp | rfl) | hp
      · exact hm.apart p (by simp [hp]) s hs hd
      · exact hmid g hgb s hs hd
      · exact hm.apart p (by simp [hp]) s hs hd
end
section
variable {P : Program} {n : Nat} {l : List (Nat × Value)} {own : List (Nat × Obj)} {ro : List Snap} {lops : List Oper} {Q : Exit → Act → World → Prop} {K : Act → World → Prop}
  {rest : List (Option Bool × Nat)} {k : Option Bool} {i d : Nat} {op : Op} {ty : TypeId} {pos : String} {af : Array Edge} {x y : Operand} {t : TypeId}
theorem x_append {e : TypeId} {z : Value} {size bytes m len b2 o2 c2 : Nat} {xs news : List Value} (l1 : List (Nat × Obj)) {l2 : List (Nat × Obj)} (r : RowS) (ho : lops[i]? = some ⟨some d, .call ⟨.builtin .append, #[x, y], #[t, t]⟩, ty, pos, af, none⟩) (hd : decide (d < n) = true)
    (hx : ev l x = some (rowV r len)) (hy : ev l y = some (.slice (some ⟨b2, o2, none⟩) m c2)) (hown : own = l1 ++ rowO e r ++ l2) (hr : rowOK size r len xs)
    (ht : P.underlying t = some (.slice e)) (hi : (P.info? e).map (fun j => (j.zero, j.size, j.bytes)) = some (some z, size, bytes)) (hz : (decide (z.cells.size = size) && decide (0 < size)) = true)
    (hl : news.length = m * size) (hat : ∀ j (hj : j < news.length), At own ro b2 (o2 + j) news[j]) (h1 : news.all (fun u => u.oneCell') = true)
    (hb1 : len + m ≤ maxLen) (hb2 : (len + m) * bytes ≤ 140737488355328)
    (h : ∀ r', rowOK size r' (len + m) (xs ++ news) → WX P lops.toArray Q K rest n ((d, rowV r' (len + m)) :: l) (l1 ++ rowO e r' ++ l2) ro) : WX P lops.toArray Q K ((none, i) :: rest) n l own ro := by
  subst hown
  intro a w ha hw
  have hd' : d < n := of_decide_eq_true hd
  have hw1 := go_none (lops := lops) (n := n) (l := l) (o := ⟨some d, .call ⟨.builtin .append, #[x, y], #[t, t]⟩, ty, pos, af, none⟩) rfl a ha
  simp only [wpX, List.getElem?_toArray, ho]
  intro w' hl'
  rw [if_pos hw1]
  have hM := hw.later hl'
  obtain ⟨inf, hi1, hi2⟩ := Option.map_eq_some_iff.1 hi
  simp only [Prod.mk.injEq] at hi2
  obtain ⟨hiz, his, hib⟩ := hi2
  simp only [Bool.and_eq_true, decide_eq_true_eq] at hz
  obtain ⟨v', w2, hrun, h2, h3, _, h5⟩ := run_append_own_at (P := P) w' 0 t ty e inf z size bytes ht hi1 hiz his hib hz.1 hz.2 (rowV r len) len xs (row_owns (own := []) hM hr) ⟨b2, o2, none⟩ m c2 news hl
    (fun j u hu => by
      obtain ⟨hj, rfl⟩ := List.getElem?_eq_some_iff.1 hu
      rw [mk_add]
      exact hat j hj w' hM) (by simpa using h1) hb1 hb2 (Nat.zero_le _)
  obtain ⟨r', rfl, hok, hM2⟩ := hM.append h2 h3 h5
  unfold Oper.wp execOp
  simp only [resolve, invoke, builtin, Sem.run_bind, Sem.run_pure, Result.andThen_ok, List.map_toArray, List.map_cons, List.map_nil, ha.eval hx, ha.eval hy, hrun]
  exact h r' hok _ _ (ha.put _ hd') hM2
end
end Go.PK

namespace Go.PK
open Go Go.RowKit Go.Maps
structure MapF (P : Program) (kt : TypeId) (es : Array MapEntry) (f : Value → Option Value) : Prop where
  key : ∀ (i : Nat) (e : MapEntry), es[i]? = some e → ∃ kl, keyOf P kt e.key = some kl
  val : ∀ (i : Nat) (e : MapEntry), es[i]? = some e → f e.key = some e.val
  has : ∀ x v, f x = some v → ∃ (i : Nat) (e : MapEntry), es[i]? = some e ∧ e.key = x ∧ e.val = v
  one : ∀ (i j : Nat) (e e' : MapEntry), es[i]? = some e → es[j]? = some e' → e.key = e'.key → i = j
noncomputable def fupd (f : Value → Option Value) (x v : Value) : Value → Option Value := open Classical in fun y => if y = x then some v else f y
theorem fupd_self {f : Value → Option Value} {x v : Value} : fupd f x v x = some v := if_pos rfl
theorem fupd_ne {f : Value → Option Value} {x v y : Value} (h : y ≠ x) : fupd f x v y = f y := if_neg h
theorem MapF.empty {P : Program} {kt : TypeId} : MapF P kt #[] (fun _ => none) := ⟨by simp, by simp, by simp, by simp⟩
section
variable {P : Program} {kt : TypeId} {es : Array MapEntry} {f : Value → Option Value}
theorem MapF.find (h : MapF P kt es f) (K : Keyed P kt) {x : Value} {lx : Lit} (hx : keyOf P kt x = some lx) (w : World) :
    ((Instr.findKey kt x es.toList).run P w = .ok none w ∧ f x = none) ∨ ∃ (j : Nat) (e : MapEntry), (Instr.findKey kt x es.toList).run P w = .ok (some (j, e.val)) w ∧ es[j]? = some e ∧ e.key = x ∧ f x = some e.val := by
  rcases K.find w hx es.toList (fun e he => by
    obtain ⟨i, hi⟩ := List.getElem?_of_mem he
    exact h.key i e (by simpa using hi)) with ⟨h1, h2⟩ | ⟨j, e, h1, h2, h3⟩
  · refine .inl ⟨h1, ?_⟩
    cases hf : f x with
    | none => rfl
    | some v =>
      obtain ⟨i, e, h3, h4, _⟩ := h.has x v hf
      exact absurd h4 (h2 e (by rw [← Array.getElem?_toList] at h3; exact List.mem_of_getElem? h3))
  · have h2' : es[j]? = some e := by simpa using h2
    exact .inr ⟨j, e, h1, h2', h3, h3 ▸ h.val j e h2'⟩
theorem MapF.push (h : MapF P kt es f) {x v : Value} {lx : Lit} {born : Nat} (hx : keyOf P kt x = some lx) (hf : f x = none) : MapF P kt (es.push ⟨x, v, born⟩) (fupd f x v) := by
  have old : ∀ (i : Nat) (e : MapEntry), es[i]? = some e → e.key ≠ x := fun i e he hk => by
    have := h.val i e he
    rw [hk, hf] at this
    cases this
  have cases' : ∀ (i : Nat) (e : MapEntry), (es.push ⟨x, v, born⟩)[i]? = some e → (es[i]? = some e ∧ i < es.size) ∨ (i = es.size ∧ e = ⟨x, v, born⟩) := fun i e he => by
    rw [Array.getElem?_push] at he
    split at he
    · cases he; exact .inr ⟨‹_›, rfl⟩
    · refine .inl ⟨he, ?_⟩
      exact (Array.getElem?_eq_some_iff.1 he).1
  refine ⟨fun i e he => ?_, fun i e he => ?_, fun y u hy => ?_, fun i j e e' he he' hk => ?_⟩
  · rcases cases' i e he with ⟨h1, _⟩ | ⟨_, rfl⟩
    · exact h.key i e h1
    · exact ⟨_, hx⟩
  · rcases cases' i e he with ⟨h1, _⟩ | ⟨_, rfl⟩
    · rw [fupd_ne (old i e h1)]; exact h.val i e h1
    · exact fupd_self
  · by_cases hyx : y = x
    · subst hyx
      rw [fupd_self] at hy
      cases hy
      exact ⟨es.size, _, by rw [Array.getElem?_push, if_pos rfl], rfl, rfl⟩
    · rw [fupd_ne hyx] at hy
      obtain ⟨i, e, h1, h2, h3⟩ := h.has y u hy
      have hi := (Array.getElem?_eq_some_iff.1 h1).1
      exact ⟨i, e, by rw [Array.getElem?_push, if_neg (by omega)]; exact h1, h2, h3⟩
  · rcases cases' i e he with ⟨h1, _⟩ | ⟨hi, rfl⟩ <;> rcases cases' j e' he' with ⟨h2, _⟩ | ⟨hj, rfl⟩
    · exact h.one i j e e' h1 h2 hk
    · exact absurd hk (old i e h1)
    · exact absurd hk.symm (old j e' h2)
    · omega
theorem MapF.put (h : MapF P kt es f) {x v : Value} {lx : Lit} {j : Nat} {e0 : MapEntry} (hx : keyOf P kt x = some lx) (h0 : es[j]? = some e0) (hk0 : e0.key = x) :
    MapF P kt (es.modify j fun e => { e with key := x, val := v }) (fupd f x v) := by
  have cases' : ∀ (i : Nat) (e : MapEntry), (es.modify j fun e => { e with key := x, val := v })[i]? = some e → (es[i]? = some e ∧ i ≠ j) ∨ (i = j ∧ e.key = x ∧ e.val = v) := fun i e he => by
    rw [Array.getElem?_modify] at he
    split at he
    · subst_vars
      rw [h0] at he
      cases he
      exact .inr ⟨rfl, rfl, rfl⟩
    · exact .inl ⟨he, fun e => by simp_all⟩
  have old : ∀ (i : Nat) (e : MapEntry), es[i]? = some e → i ≠ j → e.key ≠ x := fun i e he hne hk => hne (h.one i j e e0 he h0 (hk.trans hk0.symm))
  refine ⟨fun i e he => ?_, fun i e he => ?_, fun y u hy => ?_, fun i j' e e' he he' hk => ?_⟩
  · rcases cases' i e he with ⟨h1, _⟩ | ⟨_, h2, _⟩
    · exact h.key i e h1
    · exact ⟨_, h2 ▸ hx⟩
  · rcases cases' i e he with ⟨h1, h2⟩ | ⟨_, h2, h3⟩
    · rw [fupd_ne (old i e h1 h2)]; exact h.val i e h1
    · rw [h2, h3]; exact fupd_self
  · by_cases hyx : y = x
    · subst hyx
      rw [fupd_self] at hy
      cases hy
      exact ⟨j, { e0 with key := y, val := v }, by rw [Array.getElem?_modify, if_pos rfl, h0]; rfl, rfl, rfl⟩
    · rw [fupd_ne hyx] at hy
      obtain ⟨i, e, h1, h2, h3⟩ := h.has y u hy
      have hne : j ≠ i := fun e1 => by subst e1; rw [h0] at h1; cases h1; exact hyx (h2.symm.trans hk0)
      exact ⟨i, e, by rw [Array.getElem?_modify, if_neg hne]; exact h1, h2, h3⟩
  · rcases cases' i e he with ⟨h1, h2⟩ | ⟨hi, h2, _⟩ <;> rcases cases' j' e' he' with ⟨h3, h4⟩ | ⟨hj, h4, _⟩
    · exact h.one i j' e e' h1 h3 hk
    · exact absurd (hk.trans h4) (old i e h1 h2)
    · exact absurd (hk.symm.trans h2) (old j' e' h3 h4)
    · omega
end
theorem turned_obj {w : World} {g : Nat} {o o' : Obj} (h : w.heap[g]? = some o) : Turned w { w with heap := w.heap.setIfInBounds g o' } g o' where
  os := rfl
  tape := rfl
  output := rfl
  size := by simp
  at_ := by
    show (w.heap.setIfInBounds g o')[g]? = some o'
    rw [Array.getElem?_setIfInBounds_self_of_lt (heap_lt h)]
  other := fun k hk => by
    show (w.heap.setIfInBounds g o')[k]? = w.heap[k]?
    rw [Array.getElem?_setIfInBounds_ne (fun e => hk e.symm)]
section
variable {P : Program} {n : Nat} {l : List (Nat × Value)} {own : List (Nat × Obj)} {ro : List Snap} {lops : List Oper} {Q : Exit → Act → World → Prop} {K : Act → World → Prop}
  {rest : List (Option Bool × Nat)} {k : Option Bool} {i d : Nat} {op : Op} {ty : TypeId} {pos : String} {af : Array Edge} {x y m : Operand} {t kt e : TypeId} {b : Nat} {es : Array MapEntry} {clock : Nat} {f : Value → Option Value}
theorem x_makeMap (ho : lops[i]? = some ⟨some d, .makeMap t none, ty, pos, af, none⟩) (hk : (k == some true) = false) (hd : decide (d < n) = true)
    (h : ∀ b, WX P lops.toArray Q K rest n ((d, .map (some b)) :: l) ((b, .map #[] 0) :: own) ro) : WX P lops.toArray Q K ((k, i) :: rest) n l own ro :=
  x_new (f := fun b => .map (some b)) ho (go_none rfl) rfl hk hd (fun a w ha hw => by simp [execOp, Instr.makeMap]) h
theorem v_lookup {u v z : Value} {lx : Lit} (ht : P.underlying t = some (.map kt e)) (KK : Keyed P kt) (hz : (P.info? e).bind (·.zero) = some z) (hm : ev l m = some (.map (some b))) (hx : ev l x = some u) (hkey : keyOf P kt u = some lx)
    (hb : (b, Obj.map es clock) ∈ own) (hf : MapF P kt es f) (hv : (f u).getD z = v) : OpV P n l own ro (.lookup t m x false) ty v := by
  intro A w o ha hw ho _
  have hg := hw.own_at _ hb
  subst hv
  rcases hf.find KK hkey w with ⟨h1, h2⟩ | ⟨j, e, h1, h2, h3, h4⟩
  · simp [execOp, ho, ha.eval hm, ha.eval hx, Instr.lookup, run_underlying ht, MapKept.run_getObj_map hg, KK.check w _ hkey, h1, run_zeroValue hz, h2, Result.andThen]
  · simp [execOp, ho, ha.eval hm, ha.eval hx, Instr.lookup, run_underlying ht, MapKept.run_getObj_map hg, KK.check w _ hkey, h1, h4, Result.andThen]
theorem x_mapUpdate {u v : Value} {lx : Lit} (l1 : List (Nat × Obj)) {l2 : List (Nat × Obj)} (ho : lops[i]? = some ⟨none, .mapUpdate t m x y, ty, pos, af, none⟩) (hm : ev l m = some (.map (some b))) (hx : ev l x = some u) (hy : ev l y = some v)
    (ht : P.underlying t = some (.map kt e)) (KK : Keyed P kt) (hkey : keyOf P kt u = some lx) (hown : own = l1 ++ (b, .map es clock) :: l2) (hf : MapF P kt es f)
    (h : ∀ es' clock', MapF P kt es' (fupd f u v) → WX P lops.toArray Q K rest n l (l1 ++ (b, .map es' clock') :: l2) ro) : WX P lops.toArray Q K ((none, i) :: rest) n l own ro := by
  subst hown
  intro a w ha hw
  have hw1 := go_none (lops := lops) (n := n) (l := l) (o := ⟨none, .mapUpdate t m x y, ty, pos, af, none⟩) rfl a ha
  simp only [wpX, List.getElem?_toArray, ho]
  intro w' hl
  rw [if_pos hw1]
  have hM := hw.later hl
  have hg : w'.heap[b]? = some (.map es clock) := hM.own_at (b, _) (by simp)
  have hrun : ∃ es' clock', MapF P kt es' (fupd f u v) ∧ (Instr.mapUpdate t (.map (some b)) u v).run P w' = .ok () { w' with heap := w'.heap.setIfInBounds b (.map es' clock') } := by
    rcases hf.find KK hkey w' with ⟨h1, h2⟩ | ⟨j, e0, h1, h2, h3, h4⟩
    · exact ⟨_, clock + 1, hf.push (v := v) (born := clock) hkey h2, by simp [Instr.mapUpdate, run_underlying ht, MapKept.run_getObj_map hg, KK.check w' false hkey, h1, MapKept.run_setObj_map _ hg, Result.andThen]⟩
    · refine ⟨_, clock, hf.put (v := v) hkey h2 h3, ?_⟩
      have hs : (Instr.keyThatStays (((es[j]?).map (·.key)).getD u) u).run P w' = .ok u w' := by
        rw [h2]; simp only [Option.map_some, Option.getD_some, h3]; exact KK.stays w' hkey
      simp only [Instr.mapUpdate, Sem.run_bind, run_underlying ht, Result.andThen_ok, MapKept.run_getObj_map hg, KK.check w' false hkey, h1, hs, MapKept.run_setObj_map _ hg]
  obtain ⟨es', clock', hf', hr⟩ := hrun
  unfold Oper.wp
  have hr2 : (execOp a.eval ⟨none, .mapUpdate t m x y, ty, pos, af, none⟩).run P w' = .ok .skip { w' with heap := w'.heap.setIfInBounds b (.map es' clock') } := by
    simp only [execOp, ha.eval hm, ha.eval hx, ha.eval hy, Sem.run_bind, hr, Result.andThen_ok, Sem.run_pure]
  rw [hr2]
  show wpX P lops.toArray Q K rest (a.put none undef) _
  exact h es' clock' hf' a _ ha (hM.turn (turned_obj hg))
end
theorem enter_in {P : Program} {n : Nat} {own : List (Nat × Obj)} {ro : List Snap} {fn : Func} {R : Ending → World → Prop} {f : FuncId} {c : Code} {vs : List Value} {w : World} (hm : Mem w own ro) (hf : P.funcs[f]? = some fn) (hb : fn.body = some c) (hn : fn.ntmps = n) (hv : decide (vs.length ≤ n) = true)
    (h : W P c (bodyPost P fn R) n (slots 0 vs) own ro) : Calls P f vs.toArray w R := by
  have hv' := of_decide_eq_true hv
  refine calls_of_wp hf hb (h _ w ⟨by simp [hn]; omega, rfl, fun s v hs => ?_⟩ hm)
  obtain ⟨_, h2⟩ := slots_lookup _ _ _ _ hs
  simp only [Nat.sub_zero] at h2
  have hlt : s < vs.length := (List.getElem?_eq_some_iff.1 h2).1
  show (vs.toArray ++ _)[s]? = some v
  rw [Array.getElem?_append_left (by simpa using hlt)]
  simpa using h2
section
variable {P : Program} {n : Nat} {l : List (Nat × Value)} {own : List (Nat × Obj)} {ro : List Snap} {lops : List Oper} {Q : Exit → Act → World → Prop} {K : Act → World → Prop}
  {rest : List (Option Bool × Nat)} {k : Option Bool} {i d : Nat} {ty : TypeId} {pos : String} {af : Array Edge}
theorem x_turn {τ : Type} {f : FuncId} {fn : Func} {xs : Array Operand} {tys : Array TypeId} {c : Operand} {vs : List Value} {fst cap : Array Value} {v : Value} (R : τ → Prop) (O : τ → List (Nat × Obj)) (ho : lops[i]? = some ⟨some d, .call ⟨.value c, xs, tys⟩, ty, pos, af, none⟩) (hd : decide (d < n) = true)
    (hcal : ev l c = some (.func (.func f) fst cap)) (hf : P.funcs[f]? = some fn) (hbody : (!(fn.name == "runtime.NumGoroutine") && fn.body.isSome) = true) (hx : evs l xs.toList = some vs)
    (hc : ∀ w, Mem w own ro → Calls P f (fst ++ vs.toArray ++ cap) w fun e w' => e = .returned v ∧ ∃ x, R x ∧ Mem w' (O x) ro)
    (h : ∀ x, R x → WX P lops.toArray Q K rest n ((d, v) :: l) (O x) ro) : WX P lops.toArray Q K ((none, i) :: rest) n l own ro := by
  intro a w ha hw
  have hd' : d < n := of_decide_eq_true hd
  have hw1 := go_none (lops := lops) (n := n) (l := l) (o := ⟨some d, .call ⟨.value c, xs, tys⟩, ty, pos, af, none⟩) rfl a ha
  simp only [wpX, List.getElem?_toArray, ho]
  intro w' hl
  rw [if_pos hw1]
  unfold Oper.wp
  rw [run_callv rfl ha hcal hf hbody hx]
  refine Calls.mono (hc w' (hw.later hl)) fun e w2 he => ?_
  obtain ⟨rfl, x, hr, hm⟩ := he
  exact h x hr _ w2 (ha.put v hd') hm
end
end Go.PK

namespace Go.PK
open Go Go.RowKit
def cellsL : Value → List Value
  | .agg cs => cs.toList
  | v => [v]
theorem cellsL_eq (v : Value) : v.cells.toList = cellsL v := by cases v <;> rfl
theorem cellsL_len (v : Value) : v.cells.size = (cellsL v).length := by rw [← cellsL_eq]; simp
def putL : List Value → Nat → List Value → List Value
  | [], _, _ => []
  | c :: cs, 0, [] => c :: cs
  | _ :: cs, 0, v :: vs => v :: putL cs 0 vs
  | c :: cs, n + 1, vs => c :: putL cs n vs
theorem putL_nil : ∀ (cs : List Value) (n : Nat), putL cs n [] = cs
  | [], n => by cases n <;> rfl
  | c :: cs, 0 => rfl
  | c :: cs, n + 1 => by show c :: putL cs n [] = c :: cs; rw [putL_nil cs n]
theorem putL_cons (v : Value) (vs : List Value) : ∀ (cs : List Value) (n : Nat), putL cs n (v :: vs) = putL (cs.set n v) (n + 1) vs
  | [], n => by cases n <;> rfl
  | c :: cs, 0 => rfl
  | c :: cs, n + 1 => by show c :: putL cs n (v :: vs) = c :: putL (cs.set n v) (n + 1) vs; rw [putL_cons v vs cs n]
theorem fold_putL (off : Nat) : ∀ (vs : List Value) (s : Nat) (cells : Array Value), (vs.zipIdx s).foldl (fun cs x => cs.setIfInBounds (off + x.2) x.1) cells = (putL cells.toList (off + s) vs).toArray
  | [], s, cells => by simp [putL_nil]
  | v :: vs, s, cells => by
    rw [List.zipIdx_cons, List.foldl_cons, fold_putL off vs (s + 1), putL_cons]
    simp [Nat.add_assoc]
def fillL (pl : Nat → Option (Nat × Nat)) : List Value → List (Nat × Value) → Option (List Value)
  | cells, [] => some cells
  | cells, (i, v) :: r => match pl i with
    | none => none
    | some (off, size) => match Nat.beq (cellsL v).length size && Nat.ble (off + (cellsL v).length) cells.length with
      | true => fillL pl (putL cells off (cellsL v)) r
      | false => none
theorem fill_of_L {pl : Nat → Option (Nat × Nat)} : ∀ (vs : List (Nat × Value)) (cells cs : List Value), fillL pl cells vs = some cs → Instr.fill pl cells.toArray vs = some cs.toArray
  | [], cells, cs, h => by cases h; rfl
  | (i, v) :: r, cells, cs, h => by
    simp only [fillL] at h
    unfold Instr.fill
    split at h
    · cases h
    · rename_i off size hp
      rw [hp]
      split at h
      · rename_i hb
        obtain ⟨h1, h2⟩ := Bool.and_eq_true_iff.1 hb
        have h1 := Nat.eq_of_beq_eq_true h1
        have h2 := Nat.le_of_ble_eq_true h2
        have hn : ¬ ((decide (v.cells.size ≠ size) || decide (off + v.cells.size > cells.toArray.size)) = true) := by
          rw [cellsL_len]; simp only [List.size_toArray, Bool.or_eq_true, decide_eq_true_eq]; omega
        dsimp only
        rw [if_neg hn]
        have : v.cells.zipIdx.foldl (fun cs (x : Value × Nat) => cs.setIfInBounds (off + x.2) x.1) cells.toArray = (putL cells off (cellsL v)).toArray := by
          rw [← Array.foldl_toList, Array.toList_zipIdx, fold_putL, cellsL_eq]; simp
        have h3 := fill_of_L r _ cs h
        rw [← this] at h3
        exact h3
      · cases h
section
variable {P : Program} {n : Nat} {l : List (Nat × Value)} {own : List (Nat × Obj)} {ro : List Snap} {lops : List Oper} {Q : Exit → Act → World → Prop} {K : Act → World → Prop}
  {rest : List (Option Bool × Nat)} {k : Option Bool} {i d : Nat} {op : Op} {ty : TypeId} {pos : String} {af : Array Edge} {x y : Operand} {t : TypeId}
theorem v_buildArr {parts : List (Nat × Operand)} {vs : List (Nat × Value)} {z : Value} {cs : List Value} {N m : Nat} {e : TypeId} (ht : P.underlying t = some (.array N e)) (hz : (P.info? t).bind (·.zero) = some z)
    (hs : (P.info? e).map (·.size) = some m) (hx : evp l parts = some vs) (hf : fillL (fun j => some (j * m, m)) (cellsL z) vs = some cs) :
    OpV P n l own ro (.build t parts.toArray) ty (.agg cs.toArray) := by
  intro A w o ha hw ho _
  have hparts : (parts.toArray.map fun (i, x) => (i, A.eval x)).toList = vs := by
    rw [Array.toList_map]; exact ha.evps hx
  have hfill := fill_of_L vs (cellsL z) cs hf
  rw [← cellsL_eq] at hfill
  simp only [Array.toArray_toList] at hfill
  simp only [execOp, ho, Instr.build, Sem.run_bind, run_zeroValue hz, Result.andThen_ok, run_underlying ht, run_sizeOf hs, hparts, hfill, Sem.run_pure]
theorem x_mem {plan : List (Option Bool × Nat)} {own' : List (Nat × Obj)} {ro' : List Snap} (hm : ∀ w, Mem w own ro → Mem w own' ro') (h : WX P lops.toArray Q K plan n l own' ro') : WX P lops.toArray Q K plan n l own ro :=
  fun a w ha hw => h a w ha (hm w hw)
theorem x_memW {c : Code} {own' : List (Nat × Obj)} {ro' : List Snap} {Q : Exit → Act → World → Prop} (hm : ∀ w, Mem w own ro → Mem w own' ro') (h : W P c Q n l own' ro') : W P c Q n l own ro :=
  fun a w ha hw => h a w ha (hm w hw)
theorem v_buildL {parts : List (Nat × Operand)} {vs : List (Nat × Value)} {fs : Array Field} {z : Value} {cs : List Value} {places : List (Nat × Nat)} (ht : P.underlying t = some (.struct fs)) (hz : (P.info? t).bind (·.zero) = some z)
    (hp : fs.toList.map (fun f => ((P.info? f.type).map fun j => (f.offset, j.size))) = places.map some) (hx : evp l parts = some vs) (hf : fillL (places[·]?) (cellsL z) vs = some cs) :
    OpV P n l own ro (.build t parts.toArray) ty (.agg cs.toArray) := by
  refine v_build (places := places.toArray) ht hz (by simpa using hp) hx ?_
  have := fill_of_L vs (cellsL z) cs hf
  rw [← cellsL_eq] at this
  simpa using this
theorem x_buildSliceL {parts : List (Nat × Operand)} {vs : List (Nat × Value)} {e : TypeId} {z : Value} {cs : List Value} {len m : Nat} (ho : lops[i]? = some ⟨some d, .buildSlice t len parts.toArray, ty, pos, af, none⟩) (hk : (k == some true) = false) (hd : decide (d < n) = true)
    (ht : P.underlying t = some (.slice e)) (hs : (P.info? e).map (·.size) = some m) (hz : (P.info? e).bind (·.zero) = some z) (hlen : (decide (len * m ≤ 2 ^ 24) && decide (0 < len * m)) = true) (hx : evp l parts = some vs)
    (hf : fillL (fun j => some (j * m, m)) ((List.range (len * m)).map (fun i => (cellsL z)[i % (cellsL z).length]!)) vs = some cs)
    (h : ∀ b, WX P lops.toArray Q K rest n ((d, .slice (some ⟨b, 0, none⟩) len len) :: l) ((b, .cells cs.toArray e) :: own) ro) : WX P lops.toArray Q K ((k, i) :: rest) n l own ro := by
  refine x_buildSlice ho hk hd ht hs hz hlen hx (cs := cs.toArray) ?_ h
  have h1 := fill_of_L vs _ cs hf
  have h2 : ((List.range (len * m)).map (fun i => (cellsL z)[i % (cellsL z).length]!)).toArray = (Array.range (len * m)).map (z.cells[· % z.cells.size]!) := by
    apply Array.toList_inj.1
    simp only [Array.toList_map, Array.toList_range]
    refine List.map_congr_left fun j _ => ?_
    rw [cellsL_len, ← cellsL_eq]
    simp [Array.getElem!_eq_getD, Array.getD_eq_getD_getElem?]
  rwa [h2] at h1
end
end Go.PK

namespace Go.PK
open Go Go.RowKit
def td : Nat → Bool | 0 => false | _ => true
def There (rs : List Rl) (fs : List Fl) (k i : Nat) (mf : Value → Option Value) : Prop :=
  ∀ j (hj : j < rs.length), (mf (.int .i64 (j : Nat))).getD (.bool false) = .bool ((fs.take (if j < i then k + 1 else k)).any fun f => mtc rs[j].tag f.tag)
theorem There.init (rs : List Rl) (fs : List Fl) : There rs fs 0 0 (fun _ => none) := fun j hj => by simp
theorem There.next {rs : List Rl} {fs : List Fl} {k i : Nat} {mf : Value → Option Value} (h : There rs fs k i mf) (hi : rs.length ≤ i) : There rs fs (k + 1) 0 mf := fun j hj => by
  rw [h j hj, if_pos (by omega), if_neg (by omega)]
theorem There.step {rs : List Rl} {fs : List Fl} {k i : Nat} {mf : Value → Option Value} {b : Bool} (h : There rs fs k i mf) (hk : k < fs.length) (hi : i < rs.length)
    (hb : b = ((fs.take k).any (fun f => mtc rs[i].tag f.tag) || mtc rs[i].tag fs[k].tag)) : There rs fs k (i + 1) (fupd mf (.int .i64 (i : Nat)) (.bool b)) := fun j hj => by
  by_cases hji : j = i
  · subst hji
    rw [fupd_self, if_pos (by omega), hb, List.take_succ_eq_append_getElem hk, List.any_append]
    simp
  · have hne : Value.int .i64 (j : Nat) ≠ Value.int .i64 (i : Nat) := fun e => by
      injection e with _ e
      omega
    rw [fupd_ne hne, h j hj]
    by_cases h1 : j < i
    · rw [if_pos h1, if_pos (by omega)]
    · rw [if_neg h1, if_neg (by omega)]
theorem There.at {rs : List Rl} {fs : List Fl} {k i : Nat} {mf : Value → Option Value} (h : There rs fs k i mf) (hi : i < rs.length) : (mf (.int .i64 (i : Nat))).getD (.bool false) = .bool ((fs.take k).any fun f => mtc rs[i].tag f.tag) := by
  rw [h i hi, if_neg (Nat.lt_irrefl i)]
theorem There.last {rs : List Rl} {fs : List Fl} {mf : Value → Option Value} (h : There rs fs fs.length 0 mf) {i : Nat} (hi : i < rs.length) : (mf (.int .i64 (i : Nat))).getD (.bool false) = .bool (fs.any fun f => mtc rs[i].tag f.tag) := by
  rw [h i hi, if_neg (Nat.not_lt_zero i), List.take_length]
end Go.PK

namespace Go.PK
open Go Go.RowKit
end Go.PK

namespace Go.PK
open Go
end Go.PK

namespace Go.PK
open Go Go.RowKit
def Reads {α : Type} (T : Ty α) (D : Nat → Prop) (w : World) : List (List Value) → List α → Prop
  | [], [] => True
  | c :: cs, x :: xs => T.rd D w c x ∧ Reads T D w cs xs
  | _, _ => False
theorem Reads.at {α : Type} {T : Ty α} {D : Nat → Prop} {w : World} : ∀ {css : List (List Value)} {xs : List α}, Reads T D w css xs → css.length = xs.length ∧ ∀ j (h1 : j < css.length) (h2 : j < xs.length), T.rd D w css[j] xs[j]
  | [], [], _ => ⟨rfl, fun j h => by simp at h⟩
  | c :: cs, x :: xs, ⟨h, hr⟩ => by
    obtain ⟨e1, e2⟩ := hr.at
    refine ⟨by simp [e1], fun j h1 h2 => ?_⟩
    cases j with
    | zero => exact h
    | succ j => exact e2 j (by simpa using h1) (by simpa using h2)
end Go.PK

namespace Go.PK
open Go Go.RowKit
section
variable {P : Program} {n : Nat} {l : List (Nat × Value)} {own : List (Nat × Obj)} {ro : List Snap} {lops : List Oper} {Q : Exit → Act → World → Prop} {K : Act → World → Prop}
  {rest : List (Option Bool × Nat)} {k : Option Bool} {i d : Nat} {ty t : TypeId} {pos : String} {af : Array Edge}
theorem x_own {τ : Type} {f : FuncId} {fn : Func} {xs : Array Operand} {tys : Array TypeId} {vs : List Value} (V : τ → Value) (R : τ → Prop) (O : τ → List (Nat × Obj)) (ho : lops[i]? = some ⟨some d, .call ⟨.value (.func f), xs, tys⟩, ty, pos, af, none⟩) (hk : (k == some true) = false) (hd : decide (d < n) = true)
    (hf : P.funcs[f]? = some fn) (hbody : (!(fn.name == "runtime.NumGoroutine") && fn.body.isSome) = true) (hx : evs l xs.toList = some vs)
    (hc : ∀ w, Mem w own ro → Calls P f vs.toArray w fun e w' => ∃ x, e = .returned (V x) ∧ Later w w' ∧ R x ∧ Mem w' (O x) ro)
    (h : ∀ x, R x → WX P lops.toArray Q K rest n ((d, V x) :: l) (O x) ro) : WX P lops.toArray Q K ((k, i) :: rest) n l own ro := by
  intro a w ha hw
  have hd' : d < n := of_decide_eq_true hd
  have hw1 := go_none (lops := lops) (n := n) (l := l) (o := ⟨some d, .call ⟨.value (.func f), xs, tys⟩, ty, pos, af, none⟩) rfl a ha
  have hc' : ∀ w, Mem w own ro → Calls P f ((#[] : Array Value) ++ vs.toArray ++ #[]) w fun e w' => ∃ x, e = .returned (V x) ∧ Later w w' ∧ R x ∧ Mem w' (O x) ro := by simpa using hc
  simp only [wpX, List.getElem?_toArray, ho]
  cases k with
  | none =>
    intro w' hl
    rw [if_pos hw1]
    unfold Oper.wp
    rw [run_callv (fst := #[]) (cap := #[]) rfl ha rfl hf hbody hx]
    refine Calls.mono (hc' w' (hw.later hl)) fun e w2 he => ?_
    obtain ⟨x, rfl, hl2, hr, hm⟩ := he
    exact h x hr _ w2 (ha.put _ hd') hm
  | some b =>
    have : b = false := by cases b <;> simp_all
    subst this
    dsimp only
    rw [if_pos hw1]
    intro w' hl
    unfold Oper.wp
    rw [run_callv (fst := #[]) (cap := #[]) rfl ha rfl hf hbody hx]
    refine Calls.mono (hc' w' (hw.later hl)) fun e w2 he => ?_
    obtain ⟨x, rfl, hl2, hr, hm⟩ := he
    exact ⟨hl2, h x hr _ w2 (ha.put _ hd') hm⟩
end
end Go.PK

namespace Go.PK
open Go Go.RowKit
section
variable {P : Program} {n : Nat} {l : List (Nat × Value)} {own own' : List (Nat × Obj)} {ro : List Snap} {lops : List Oper} {Q : Exit → Act → World → Prop} {K : Act → World → Prop} {c : Code} {plan : List (Option Bool × Nat)}
theorem Mem.fix {w : World} (h : Mem w own ro) (hs : own'.Sublist own) : Mem w own' ((w, notOwn own') :: ro) := (h.less hs (fun s hs => hs)).snap
end
section
variable {P : Program} {n : Nat} {l : List (Nat × Value)} {own : List (Nat × Obj)} {ro : List Snap} {lops : List Oper} {Q : Exit → Act → World → Prop} {K : Act → World → Prop}
  {rest : List (Option Bool × Nat)} {k : Option Bool} {i d : Nat} {ty : TypeId} {pos : String} {af : Array Edge}
end
def newD (w : World) (own : List (Nat × Obj)) : Nat → Prop := fun b => w.heap.size ≤ b ∧ notOwn own b
theorem Kept.made {w wa wb w0 : World} {own own1 : List (Nat × Obj)} {ro ro1 : List Snap} (h : Mem w0 own ro) (hs : (wb, notOwn own1) ∈ ro) (hm : Mem wa own1 ro1) (hw : w.heap.size ≤ wa.heap.size) : Kept (fun b => wa.heap.size ≤ b) (newD w own) wb w0 :=
  fun k hk hlt => ⟨⟨Nat.le_trans hw hk, fun p hp he => by
    have h1 := h.apart p hp _ hs (fun q hq e => by have := hm.lt hq; omega)
    simp only at h1; omega⟩, h.ro_at _ hs k (fun q hq e => by have := hm.lt hq; omega) hlt⟩
theorem Kept.new {w w1 ws : World} {own own1 : List (Nat × Obj)} {ro : List Snap} (h : Mem w1 own1 ro) (hs : (ws, notOwn own) ∈ ro) : Kept (newD w own) (fun _ => True) ws w1 :=
  fun k hk hlt => ⟨trivial, h.ro_at _ hs k hk.2 hlt⟩
theorem Kept.out {w w0 ws : World} {own ownh : List (Nat × Obj)} {ro : List Snap} (h : Mem w0 own ro) (hs : (ws, notOwn ownh) ∈ ro) : Kept (newD w ownh) (fun b => w.heap.size ≤ b) ws w0 :=
  fun k hk hlt => ⟨hk.1, h.ro_at _ hs k hk.2 hlt⟩
def RowT {α : Type} (T : Ty α) (D : Nat → Prop) (ws : World) (r : RowS) (xs : List α) : Prop :=
  ∃ css : List (List Value), css.length = xs.length ∧ rowOK T.size r xs.length css.flatten ∧ ∀ j (h1 : j < css.length) (h2 : j < xs.length), T.rd D ws css[j] xs[j]
section
variable {α : Type} {T : Ty α} {D D' : Nat → Prop} {w ws w' : World} {r r' : RowS} {xs : List α}
theorem RowT.nil : RowT T D ws none [] := ⟨[], rfl, rowOK_nil, fun j h1 => by simp at h1⟩
theorem RowT.keep (h : RowT T D ws r xs) (hk : Kept D D' ws w') : RowT T D' w' r xs := by
  obtain ⟨css, h1, h2, h3⟩ := h
  exact ⟨css, h1, h2, fun j a b => T.keep (h3 j a b) hk⟩
theorem flatten_get {m : Nat} : ∀ (css : List (List Value)) (hl : ∀ j (h : j < css.length), css[j].length = m) (j : Nat) (hj : j < css.length) (i : Nat), i < m → css.flatten[j * m + i]? = css[j][i]?
  | [], _, j, hj, _, _ => by simp at hj
  | x :: xs, hl, 0, _, i, hi => by
    have h0 : x.length = m := hl 0 (by simp)
    rw [List.flatten_cons, List.getElem?_append_left (by rw [Nat.zero_mul, Nat.zero_add, h0]; exact hi)]; simp
  | x :: xs, hl, j + 1, hj, i, hi => by
    have h0 : x.length = m := hl 0 (by simp)
    rw [List.flatten_cons, List.getElem?_append_right (by rw [h0, Nat.add_mul]; omega), h0, show (j + 1) * m + i - m = j * m + i by rw [Nat.add_mul]; omega]
    exact flatten_get xs (fun k h => hl (k + 1) (by simpa using h)) j (by simpa using hj) i hi
theorem RowT.rd {own : List (Nat × Obj)} {ro : List Snap} {e : TypeId} {v : Nat} (h : RowT T D w r xs) (hm : Mem w own ro) (hin : ∀ p ∈ rowO e r, p ∈ own) (hD : ∀ b, D b → D' b) (hb : ∀ p ∈ rowO e r, D' p.1) (hv : v = xs.length) : sliceRd T D' w (rowV r v) xs := by
  subst hv
  obtain ⟨css, h1, ⟨h2, h4⟩, h3⟩ := h
  cases r with
  | none =>
    simp only at h4
    exact ⟨none, 0, by simp [rowV, rowA, rowC], by omega, by omega, fun h => by omega⟩
  | some x =>
    obtain ⟨b, cs, c⟩ := x
    obtain ⟨h5, h6, h7, h8⟩ := h4
    simp only at h5 h6 h7 h8
    have hmem : (b, Obj.cells cs.toArray e (0, 0)) ∈ own := hin _ (by simp [rowO])
    have hbl := hm.own_at _ hmem
    refine ⟨_, c, rfl, h5, by unfold maxLen at h6; omega, fun h0 => ⟨b, 0, rfl, hb (b, Obj.cells cs.toArray e (0, 0)) (by simp [rowO]), heap_lt hbl, fun j hj => ⟨css[j], fun i hi => ?_, T.keep (h3 j (by omega) hj) (fun k hk _ => ⟨hD k hk, rfl⟩)⟩⟩⟩
    have hlen : ∀ k (hk : k < css.length), css[k].length = T.size := fun k hk => T.len (h3 k hk (by omega))
    have hi' : i < T.size := by rw [hlen] at hi; exact hi
    have h9 := flatten_get css hlen j (by omega) i hi'
    have h10 : j * T.size + i < xs.length * T.size := by
      have : (j + 1) * T.size ≤ xs.length * T.size := Nat.mul_le_mul_right _ (by omega)
      rw [Nat.add_mul] at this
      omega
    rw [Nat.zero_add, cell_of_row w b _ cs.toArray e (0, 0) hbl, List.getElem?_toArray]
    rw [← h8, List.getElem?_take_of_lt h10] at h9
    rw [h9]
    exact List.getElem?_eq_getElem hi
theorem RowT.len {v : Nat} (h : RowT T D w r xs) : xs.length ≤ maxLen := by
  obtain ⟨css, h1, ⟨h2, h4⟩, h3⟩ := h
  cases r with
  | none => simp only at h4; omega
  | some x => obtain ⟨b, cs, c⟩ := x; obtain ⟨h5, h6, _⟩ := h4; exact Nat.le_trans h5 h6
end
theorem Mem.newer {w w0 : World} {own : List (Nat × Obj)} {ro : List Snap} (h : Mem w own ro) (hs : (w0, fun _ => True) ∈ ro) {p : Nat × Obj} (hp : p ∈ own) : w0.heap.size ≤ p.1 := h.apart p hp _ hs trivial
theorem Mem.notIn {w : World} {own own' l1 : List (Nat × Obj)} {ro : List Snap} (h : Mem w own ro) (hp : (l1 ++ own').Sublist own) {p : Nat × Obj} (hm : p ∈ l1) : notOwn own' p.1 := fun q hq he => by
  have hnd := (hp.map (·.1)).nodup h.own_nd
  rw [List.map_append, List.nodup_append] at hnd
  exact hnd.2.2 p.1 (List.mem_map_of_mem hm) q.1 (List.mem_map_of_mem hq) he.symm
theorem Mem.notMid {w : World} {mid b : List (Nat × Obj)} {ro : List Snap} (a : List (Nat × Obj)) (h : Mem w (a ++ (mid ++ b)) ro) {p : Nat × Obj} (hp : p ∈ mid) : notOwn (a ++ b) p.1 := fun q hq he => by
  have hnd := h.own_nd
  rw [List.map_append, List.map_append, List.nodup_append, List.nodup_append] at hnd
  obtain ⟨_, ⟨_, _, h3⟩, h4⟩ := hnd
  have hpm : p.1 ∈ mid.map (·.1) := List.mem_map_of_mem hp
  rcases List.mem_append.1 hq with hq | hq
  · exact h4 q.1 (List.mem_map_of_mem hq) p.1 (List.mem_append_left _ hpm) he
  · exact h3 p.1 hpm q.1 (List.mem_map_of_mem hq) he.symm
theorem RowT.plain {α : Type} {T : Ty α} {w : World} {mid b : List (Nat × Obj)} {ro : List Snap} {e : TypeId} {r : RowS} {xs : List α} {w0 wx : World} {n : Nat} (a : List (Nat × Obj)) (h : RowT T (fun _ => False) wx r xs) (hmid : mid = rowO e r) (hm : Mem w (a ++ (mid ++ b)) ro) (hb : (w0, fun _ => True) ∈ ro) (hn : n = xs.length) : sliceRd T (newD w0 (a ++ b)) w (rowV r n) xs := by
  subst hmid
  have h' : RowT T (fun _ => False) w r xs := h.keep (fun k hk _ => hk.elim)
  exact h'.rd hm (fun p hp => List.mem_append_right _ (List.mem_append_left _ hp)) (fun _ hx => hx.elim) (fun p hp => ⟨hm.newer hb (List.mem_append_right _ (List.mem_append_left _ hp)), hm.notMid a hp⟩) hn
theorem w_state {P : Program} {c : Code} {Q : Exit → Act → World → Prop} {n : Nat} (l : List (Nat × Value)) (own : List (Nat × Obj)) (ro : List Snap) (h : W P c Q n l own ro) : W P c Q n l own ro := h
end Go.PK

namespace Go.PK
open Go Go.RowKit
def tagL : List ByteArray := [⟨#[48, 48, 49]⟩, ⟨#[50, 52, 53]⟩, ⟨#[49, 48, 48]⟩, ⟨#[48, 50, 48]⟩, ⟨#[54, 53, 48]⟩, ⟨#[55, 48, 48]⟩, ⟨#[50, 54, 48]⟩, ⟨#[53, 48, 48]⟩, ⟨#[57, 48, 48]⟩, ⟨#[57, 52, 57]⟩, ⟨#[48, 48, 56]⟩, ⟨#[50, 52, 54]⟩, ⟨#[54, 48, 48]⟩, ⟨#[49, 49, 48]⟩, ⟨#[52, 57, 48]⟩, ⟨#[48, 48, 51]⟩, ⟨#[57, 122, 57]⟩, ⟨#[50, 52]⟩, ⟨#[57, 57, 57]⟩, ⟨#[48]⟩]
def textL : List ByteArray := [⟨#[69, 109, 109, 97]⟩, ⟨#[84, 104, 101, 32, 115, 101, 97]⟩, ⟨#[195, 156, 98, 101, 114, 32, 100, 101, 110, 32, 70, 108, 117, 195, 159]⟩, ⟨#[87, 97, 114, 32, 97, 110, 100, 32, 112, 101, 97, 99, 101]⟩, ⟨#[119, 97, 114, 32, 38, 32, 80, 69, 65, 67, 69]⟩, ⟨#[65, 117, 115, 116, 101, 110, 44, 32, 74, 97, 110, 101]⟩, ⟨#[84, 111, 108, 115, 116, 111, 121]⟩, ⟨#[49, 57, 56, 52]⟩, ⟨#[57, 55, 56, 48, 51, 48, 54, 52, 48, 54, 49, 53, 55]⟩, ⟨#[48, 51, 48, 54, 52, 48, 54, 49, 53, 50]⟩, ⟨#[76, 111, 110, 100, 111, 110]⟩, ⟨#[83, 101, 97, 32, 115, 116, 111, 114, 105, 101, 115]⟩, ⟨#[65]⟩, ⟨#[]⟩, ⟨#[69, 109, 109, 97, 32, 97, 110, 100, 32, 116, 104, 101, 32, 115, 101, 97]⟩, ⟨#[49, 57, 57, 57]⟩, ⟨#[99, 49, 57, 57, 57, 46]⟩, ⟨#[82, 105, 118, 101, 114, 115]⟩, ⟨#[79, 99, 101, 97, 110, 115, 32, 45, 45, 32, 72, 105, 115, 116, 111, 114, 121]⟩, ⟨#[112, 101, 97, 99, 101]⟩]
def indL : List ByteArray := [⟨#[49, 48]⟩, ⟨#[32, 32]⟩, ⟨#[49, 32]⟩, ⟨#[48, 48]⟩, ⟨#[48, 32]⟩, ⟨#[32, 48]⟩, ⟨#[51, 32]⟩, ⟨#[49, 50]⟩]
def pickS (l : List ByteArray) (n : Int) : ByteArray := l.getD (n % l.length).toNat ⟨#[]⟩
def tagOf (n : Int) : ByteArray := pickS tagL n
def textOf (n : Int) : ByteArray := pickS textL n
structure I4 where
  a : Int
  b : Int
  c : Int
  d : Int
def in64 (n : Int) : Prop := -9223372036854775808 ≤ n ∧ n ≤ 9223372036854775807
def I4.ok (x : I4) : Prop := in64 x.a ∧ in64 x.b ∧ in64 x.c ∧ in64 x.d
def I4.cells (x : I4) : List Value := [.int .i64 x.a, .int .i64 x.b, .int .i64 x.c, .int .i64 x.d]
def codesL : ByteArray := ⟨#[97, 98, 99, 48, 97, 118, 120, 113]⟩
def madeSub (x : I4) (j : Nat) : Sb := ⟨byteAt codesL ((x.c.tdiv 3 + (j : Int) * (1 + x.b % 3)) % 8).toNat, textOf (IntKind.i64.wrap (x.d + 3 * (j : Int)))⟩
def madeF (x : I4) : Fl :=
  if 1 < (tagOf x.a).size ∧ (tagOf x.a).extract 0 2 = ⟨#[48, 48]⟩ then ⟨tagOf x.a, ⟨#[]⟩, textOf x.d, []⟩
  else ⟨tagOf x.a, pickS indL x.b, ⟨#[]⟩, (List.range (1 + (x.c % 3).toNat)).map (madeSub x)⟩
def made (l : List I4) : List Fl := (l.take 20).map madeF
end Go.PK

namespace Go.PK
open Go Go.RowKit
theorem Mem.to {w : World} {own own' : List (Nat × Obj)} {ro : List Snap} (h : Mem w own ro) (e : own = own') : Mem w own' ro := e ▸ h
section
variable {P : Program} {n : Nat} {l : List (Nat × Value)} {own : List (Nat × Obj)} {ro : List Snap} {lops : List Oper} {Q : Exit → Act → World → Prop} {K : Act → World → Prop}
  {rest : List (Option Bool × Nat)} {k : Option Bool} {i d b off : Nat} {op : Op} {ty : TypeId} {pos : String} {af : Array Edge} {x y : Operand} {t t' : TypeId}
theorem x_buildSlice0 {e : TypeId} {m : Nat} (ho : lops[i]? = some ⟨some d, .buildSlice t 0 #[], ty, pos, af, none⟩) (hk : (k == some true) = false) (hd : decide (d < n) = true)
    (ht : P.underlying t = some (.slice e)) (hs : (P.info? e).map (·.size) = some m)
    (h : ∀ b, WX P lops.toArray Q K rest n ((d, .slice (some ⟨b, 0, none⟩) 0 0) :: l) ((b, .cells #[] e) :: own) ro) : WX P lops.toArray Q K ((k, i) :: rest) n l own ro :=
  x_new (f := fun b => .slice (some ⟨b, 0, none⟩) 0 0) ho (go_none rfl) rfl hk hd (fun A w ha hw => by
    simp [execOp, Instr.buildSlice, Sem.run_bind, run_underlying ht, Result.andThen_ok, run_sizeOf hs, Instr.fill, newRow, show ∀ g : Nat → Value, Array.map g (Array.range 0) = #[] from fun g => Array.eq_empty_of_size_eq_zero (by simp)]) h
theorem v_toStr {e : TypeId} {m c : Nat} (bs : List UInt8) (hs : P.underlying t = some (.slice e)) (he : P.underlying e = some (.int .u8)) (hd : P.underlying t' = some .string) (hx : ev l x = some (.slice (some ⟨b, off, none⟩) m c)) (hm : m = bs.length)
    (hc : ∀ j (hj : j < bs.length), At own ro b (off + j) (.int .u8 bs[j].toNat)) : OpV P n l own ro (.convert t t' x) ty (.string ⟨bs.toArray⟩) := by
  intro A w o ha hw ho _
  subst hm
  have := run_convert_bytes_back (P := P) w t t' e ⟨b, off, none⟩ c bs hs he hd (fun j hj => by rw [mk_add]; exact hc j hj w hw)
  simp [execOp, ho, ha.eval hx, this]
end
theorem sliceRd.cells {α : Type} {T : Ty α} {D : Nat → Prop} {w : World} {A : Option Addr} {m c : Nat} {xs : List α} (h : sliceRd T D w (.slice A m c) xs) :
    ∃ css : List (List Value), css.length = xs.length ∧ m = xs.length ∧ css.flatten.length = m * T.size ∧ (∀ j (h1 : j < css.length) (h2 : j < xs.length), T.rd D w css[j] xs[j]) ∧ (A = none → m = 0) ∧
      (∀ a, A = some a → ∀ j u, css.flatten[j]? = some u → w.cell? (a.add j) = some u) ∧ (0 < xs.length → ∃ b off, A = some ⟨b, off, none⟩ ∧ D b ∧ b < w.heap.size) := by
  obtain ⟨A', c', e, h1, h2, h3⟩ := h
  injection e with e1 e2 e3
  subst e1 e2 e3
  cases xs with
  | nil => exact ⟨[], rfl, rfl, by simp, fun j h => by simp at h, fun _ => rfl, fun a _ j u hu => by simp at hu, fun h => by simp at h⟩
  | cons y ys =>
    obtain ⟨b, off, rfl, hD, hb, hc⟩ := h3 (by simp)
    have hc' : ∀ j : Fin (y :: ys).length, ∃ cs, (∀ i (hi : i < cs.length), w.cell? ⟨b, off + j.1 * T.size + i, none⟩ = some cs[i]) ∧ T.rd D w cs (y :: ys)[j.1] := fun j => hc j.1 j.2
    let f : Fin (y :: ys).length → List Value := fun j => (hc' j).choose
    have hf : ∀ j, (∀ i (hi : i < (f j).length), w.cell? ⟨b, off + j.1 * T.size + i, none⟩ = some (f j)[i]) ∧ T.rd D w (f j) (y :: ys)[j.1] := fun j => (hc' j).choose_spec
    have hlen : ∀ j (h : j < (List.ofFn f).length), (List.ofFn f)[j].length = T.size := fun j h => by
      rw [List.getElem_ofFn]; exact T.len (hf _).2
    have htot : (List.ofFn f).flatten.length = (y :: ys).length * T.size := by
      rw [List.length_flatten]
      have : (List.ofFn f).map List.length = List.replicate (y :: ys).length T.size := by
        apply List.ext_getElem
        · simp
        · intro j h1 h2
          rw [List.getElem_map, List.getElem_replicate]
          exact hlen j (by simpa using h1)
      rw [this]; simp
    refine ⟨List.ofFn f, by simp, rfl, htot, fun j h1 h2 => ?_, (fun h => by cases h), fun a ha j u hu => ?_, fun _ => ⟨b, off, rfl, hD, hb⟩⟩
    · rw [List.getElem_ofFn]; exact (hf ⟨j, h2⟩).2
    · obtain rfl := Option.some.inj ha
      have hj : j < (y :: ys).length * T.size := by
        rw [← htot]; exact (List.getElem?_eq_some_iff.1 hu).1
      have hs0 : 0 < T.size := by
        rcases Nat.eq_zero_or_pos T.size with h0 | h0
        · rw [h0] at hj; omega
        · exact h0
      have hq : j / T.size < (y :: ys).length := Nat.div_lt_of_lt_mul (by rw [Nat.mul_comm]; exact hj)
      have hr : j % T.size < T.size := Nat.mod_lt _ hs0
      have hjd : j / T.size * T.size + j % T.size = j := by rw [Nat.mul_comm]; exact Nat.div_add_mod j T.size
      have hg := flatten_get (List.ofFn f) hlen (j / T.size) (by simpa using hq) (j % T.size) hr
      rw [hjd, List.getElem_ofFn] at hg
      have hfl : (f ⟨j / T.size, hq⟩).length = T.size := T.len (hf _).2
      have hx := List.getElem?_eq_getElem (l := f ⟨j / T.size, hq⟩) (i := j % T.size) (by rw [hfl]; exact hr)
      rw [hx] at hg
      rw [hg] at hu
      obtain rfl := Option.some.inj hu
      have := (hf ⟨j / T.size, hq⟩).1 (j % T.size) (by rw [hfl]; exact hr)
      rw [mk_add, ← this, Nat.add_assoc, hjd]
def sbC (s : Sb) : List Value := [.int .u8 s.code.toNat, .string s.text]
theorem tySb_cells {D : Nat → Prop} {w : World} : ∀ {css : List (List Value)} {xs : List Sb}, css.length = xs.length → (∀ j (h1 : j < css.length) (h2 : j < xs.length), tySb.rd D w css[j] xs[j]) → css.flatten = xs.flatMap sbC ∧ ∀ s ∈ xs, okS s.text
  | [], [], _, _ => ⟨rfl, by simp⟩
  | c :: css, x :: xs, hl, h => by
    have h0 := h 0 (by simp) (by simp)
    have ih := tySb_cells (css := css) (xs := xs) (by simpa using hl) (fun j h1 h2 => h (j + 1) (by simpa using h1) (by simpa using h2))
    obtain ⟨he, hok⟩ := h0
    simp only [List.getElem_cons_zero] at he hok
    refine ⟨by rw [List.flatten_cons, List.flatMap_cons, ih.1, he]; rfl, fun s hs => ?_⟩
    rcases List.mem_cons.1 hs with rfl | hs
    · exact hok
    · exact ih.2 s hs
theorem sbC_one (xs : List Sb) : (xs.flatMap sbC).all (fun u => u.oneCell') = true := by
  rw [List.all_eq_true]
  intro u hu
  obtain ⟨s, _, hs⟩ := List.mem_flatMap.1 hu
  simp only [sbC, List.mem_cons, List.not_mem_nil, or_false] at hs
  rcases hs with rfl | rfl <;> rfl
def flS (f : Fl) (S : RowS) : List Value := [.string f.tag, .string f.ind, .string f.data, rowV S f.subs.length]
def Fl.good (f : Fl) : Prop := f.ok ∧ ∀ s ∈ f.subs, okS s.text
structure DeepOK (R : RowS) (Ss : List RowS) (fs : List Fl) : Prop where
  len : Ss.length = fs.length
  row : rowOK 4 R fs.length (List.zipWith flS fs Ss).flatten
  subs : ∀ j (h1 : j < Ss.length) (h2 : j < fs.length), rowOK 2 Ss[j] fs[j].subs.length (fs[j].subs.flatMap sbC)
  ok : ∀ f ∈ fs, f.good
def subsO (Ss : List RowS) : List (Nat × Obj) := Ss.reverse.flatMap (rowO 48)
theorem DeepOK.nil : DeepOK none [] [] := ⟨rfl, rowOK_nil, fun j h => by simp at h, by simp⟩
theorem zw_len {fs : List Fl} {Ss : List RowS} (h : Ss.length = fs.length) : (List.zipWith flS fs Ss).length = fs.length := by rw [List.length_zipWith, h, Nat.min_self]
theorem DeepOK.snoc {R R' S : RowS} {Ss : List RowS} {fs : List Fl} {f : Fl} {n : Nat} (h : DeepOK R Ss fs) (hn : n = fs.length) (hr : rowOK 4 R' (n + 1) ((List.zipWith flS fs Ss).flatten ++ flS f S)) (hs : rowOK 2 S f.subs.length (f.subs.flatMap sbC)) (hok : f.good) : DeepOK R' (Ss ++ [S]) (fs ++ [f]) where
  len := by simp [h.len]
  row := by
    subst hn
    rw [List.zipWith_append h.len.symm]
    simpa using hr
  subs := fun j h1 h2 => by
    by_cases hj : j < Ss.length
    · have hj2 : j < fs.length := by rw [← h.len]; exact hj
      rw [List.getElem_append_left hj]
      simp only [List.getElem_append_left hj2]
      exact h.subs j hj hj2
    · have hj2 : j = fs.length := by have := h.len; simp at h1 h2; omega
      subst hj2
      rw [List.getElem_append_right (by omega)]
      simp only [List.getElem_append_right (Nat.le_refl _)]
      simpa [h.len] using hs
  ok := fun g hg => by
    rcases List.mem_append.1 hg with hg | hg
    · exact h.ok g hg
    · rw [List.mem_singleton.1 hg]; exact hok
end Go.PK

namespace Go.PK
open Go Go.RowKit
theorem flatten_set {m : Nat} : ∀ (css : List (List Value)) (hl : ∀ j (h : j < css.length), css[j].length = m) (n : Nat) (hn : n < css.length) (x : List Value),
    (css.set n x).flatten = css.flatten.take (n * m) ++ x ++ css.flatten.drop (n * m + m)
  | [], _, n, hn, _ => by simp at hn
  | c :: css, hl, 0, hn, x => by
    have h0 : c.length = m := hl 0 (by simp)
    rw [List.set_cons_zero, List.flatten_cons, List.flatten_cons, Nat.zero_mul, Nat.zero_add, List.take_zero, List.nil_append, ← h0, List.drop_left]
  | c :: css, hl, n + 1, hn, x => by
    have h0 : c.length = m := hl 0 (by simp)
    have e : (n + 1) * m = c.length + n * m := by rw [Nat.add_mul, h0]; omega
    rw [List.set_cons_succ, List.flatten_cons, List.flatten_cons, flatten_set css (fun k h => hl (k + 1) (by simpa using h)) n (by simpa using hn) x, e, Nat.add_assoc, List.take_length_add_append, List.drop_length_add_append]
    simp [List.append_assoc]
theorem flS_len (f : Fl) (S : RowS) : (flS f S).length = 4 := rfl
theorem zw_get {fs : List Fl} {Ss : List RowS} {j : Nat} (h1 : j < fs.length) (h2 : j < Ss.length) (h : j < (List.zipWith flS fs Ss).length) : (List.zipWith flS fs Ss)[j] = flS fs[j] Ss[j] := List.getElem_zipWith
theorem zw_m {fs : List Fl} {Ss : List RowS} (j : Nat) (h : j < (List.zipWith flS fs Ss).length) : (List.zipWith flS fs Ss)[j].length = 4 := by rw [List.getElem_zipWith]; rfl
theorem zw_flat {fs : List Fl} {Ss : List RowS} (h : Ss.length = fs.length) : (List.zipWith flS fs Ss).flatten.length = fs.length * 4 := by
  rw [List.length_flatten]
  have : (List.zipWith flS fs Ss).map List.length = List.replicate fs.length 4 := by
    apply List.ext_getElem
    · simp [h]
    · intro j h1 h2
      rw [List.getElem_map, List.getElem_replicate]
      exact zw_m j (by simpa using h1)
  rw [this]; simp
theorem DeepOK.there {R : RowS} {Ss : List RowS} {fs : List Fl} (h : DeepOK R Ss fs) (hl : 0 < fs.length) : ∃ b cs c, R = some (b, cs, c) ∧ fs.length ≤ c ∧ c ≤ maxLen ∧ cs.length = c * 4 ∧ cs.take (fs.length * 4) = (List.zipWith flS fs Ss).flatten := by
  obtain ⟨h1, h2⟩ := h.row
  cases R with
  | none => simp only at h2; omega
  | some x => obtain ⟨b, cs, c⟩ := x; obtain ⟨h3, h4, h5, h6⟩ := h2; exact ⟨b, cs, c, rfl, h3, h4, h5, h6⟩
theorem DeepOK.at {b c : Nat} {cs : List Value} {Ss : List RowS} {fs : List Fl} (h : DeepOK (some (b, cs, c)) Ss fs) {n : Nat} (h1 : n < fs.length) (h2 : n < Ss.length) {i : Nat} (hi : i < 4) : cs[n * 4 + i]? = (flS fs[n] Ss[n])[i]? := by
  obtain ⟨b', cs', c', e, h3, h4, h5, h6⟩ := h.there (by omega)
  injection e with e; injection e with e1 e2; injection e2 with e2 e3; subst e1 e2 e3
  have hz := zw_len h.len
  have := flatten_get (m := 4) (List.zipWith flS fs Ss) (fun j h => zw_m j h) n (by omega) i hi
  rw [zw_get h1 h2, ← h6, List.getElem?_take_of_lt (by omega)] at this
  exact this
theorem DeepOK.set {b c : Nat} {cs : List Value} {Ss : List RowS} {fs : List Fl} (h : DeepOK (some (b, cs, c)) Ss fs) {n : Nat} (h1 : n < fs.length) {g : Fl} {S : RowS} (hs : rowOK 2 S g.subs.length (g.subs.flatMap sbC)) (hg : g.good) :
    DeepOK (some (b, cs.take (n * 4) ++ flS g S ++ cs.drop (n * 4 + 4), c)) (Ss.set n S) (fs.set n g) := by
  obtain ⟨b', cs', c', e, h3, h4, h5, h6⟩ := h.there (by omega)
  injection e with e; injection e with e1 e2; injection e2 with e2 e3; subst e1 e2 e3
  have hz := zw_len h.len
  have hfl := zw_flat h.len
  have h2 : n < Ss.length := by rw [h.len]; exact h1
  have hzs : List.zipWith flS (fs.set n g) (Ss.set n S) = (List.zipWith flS fs Ss).set n (flS g S) := by
    apply List.ext_getElem
    · simp
    · intro j a1 a2
      rw [List.getElem_zipWith, List.getElem_set, List.getElem_set, List.getElem_set]
      split
      · rfl
      · rw [List.getElem_zipWith]
  refine ⟨by simp [h.len], ⟨?_, ?_⟩, fun j a1 a2 => ?_, fun f hf => ?_⟩
  · rw [hzs, flatten_set (m := 4) _ (fun j h => zw_m j h) n (by omega)]
    simp only [List.length_append, List.length_take, List.length_drop, hfl, flS_len, List.length_set]
    omega
  · have hcs : cs = (List.zipWith flS fs Ss).flatten ++ cs.drop (fs.length * 4) := by rw [← h6, List.take_append_drop]
    refine ⟨by simpa using h3, h4, ?_, ?_⟩
    · simp only [List.length_append, List.length_take, List.length_drop, flS_len]; omega
    · rw [List.length_set, hzs, flatten_set (m := 4) _ (fun j h => zw_m j h) n (by omega)]
      generalize (List.zipWith flS fs Ss).flatten = F at hcs hfl
      generalize cs.drop (fs.length * 4) = G at hcs
      have e1 : List.take (n * 4) (F ++ G) = F.take (n * 4) := List.take_append_of_le_length (by omega)
      have e2 : List.drop (n * 4 + 4) (F ++ G) = F.drop (n * 4 + 4) ++ G := List.drop_append_of_le_length (by omega)
      rw [hcs, e1, e2, ← List.append_assoc]
      exact List.take_left' (by simp only [List.length_append, List.length_take, List.length_drop, flS_len]; omega)
  · simp only [List.length_set] at a1 a2
    by_cases hj : n = j
    · subst hj
      simp only [List.getElem_set_self]; exact hs
    · simp only [List.getElem_set_ne hj]
      exact h.subs j a1 a2
  · rcases List.mem_or_eq_of_mem_set hf with hf | rfl
    · exact h.ok f hf
    · exact hg
theorem subs_rd {own : List (Nat × Obj)} {ro : List Snap} {w : World} {D : Nat → Prop} {S : RowS} {xs : List Sb} (hr : rowOK 2 S xs.length (xs.flatMap sbC)) (hok : ∀ s ∈ xs, okS s.text) (hm : Mem w own ro) (hin : ∀ p ∈ rowO 48 S, p ∈ own) (hD : ∀ p ∈ own, D p.1) : sliceRd tySb D w (rowV S xs.length) xs := by
  have h : RowT tySb (fun _ => False) w S xs := ⟨xs.map sbC, by simp, by rw [← List.flatMap_def]; exact hr, fun j a1 a2 => by
    rw [List.getElem_map]; exact ⟨rfl, hok _ (List.getElem_mem a2)⟩⟩
  exact h.rd hm hin (fun _ hx => hx.elim) (fun p hp => hD p (hin p hp)) rfl
theorem DeepOK.rd {own : List (Nat × Obj)} {ro : List Snap} {w : World} {D : Nat → Prop} {R : RowS} {Ss : List RowS} {fs : List Fl} (h : DeepOK R Ss fs) (hm : Mem w own ro) (hR : ∀ p ∈ rowO 46 R, p ∈ own) (hS : ∀ p ∈ subsO Ss, p ∈ own) (hD : ∀ p ∈ own, D p.1) : sliceRd tyFl D w (rowV R fs.length) fs := by
  have hz := zw_len h.len
  have hT : RowT tyFl D w R fs := ⟨List.zipWith flS fs Ss, hz, h.row, fun j a1 a2 => by
    have a3 : j < Ss.length := by rw [h.len]; exact a2
    rw [zw_get a2 a3]
    refine ⟨_, rfl, (h.ok _ (List.getElem_mem a2)).1, subs_rd (h.subs j a3 a2) (h.ok _ (List.getElem_mem a2)).2 hm (fun p hp => hS p ?_) hD⟩
    unfold subsO
    exact List.mem_flatMap.2 ⟨Ss[j], List.mem_reverse.2 (List.getElem_mem a3), hp⟩⟩
  exact hT.rd hm hR (fun _ h => h) (fun p hp => hD p (hR p hp)) rfl
end Go.PK

namespace Go.PK
open Go Go.ChangeShapes Go.WideShapes Go.ChangeAt Go.RowKit
section
variable {H : Type} {enc : TypeId × Value → H} {P : Program} {W W' : World}
theorem later_same (hl : PK.Later W W') {p : MemPlace} (hp : p.block < W.heap.size) : W.sameAt W' p := Below.same hl hp
theorem args_after {T : TypeId → Prop} (K : Kids P T) (hz : ∀ t e, T t → P.underlying t = some (.slice e) → 0 < P.cellsOf e) {sp : Nat → Bool} (hl : PK.Later W W') : ∀ {ts : List TypeId} {vs : List Value} {ds : List (DataW H)} {ps : List MemPlace}, (∀ t ∈ ts, T t) →
    DataW.TrodAll enc P W 0 (fun _ => true) true ts vs ds ps → (∀ p ∈ ps, p.block < W.heap.size) → (∀ p ∈ ps, sp p.block = true) → DataW.TrodAll enc P W' 0 sp true ts vs ds ps
  | [], [], [], _, _, h, _, _ => h
  | _ :: _, _ :: _, _ :: _, _, hT, ⟨p, q, h1, h2, e⟩, hlt, hs =>
    ⟨p, q, by
      obtain ⟨n, hn⟩ := h1.respare K hz (hT _ (List.mem_cons.2 (Or.inl rfl))) (fun x hx => hs x (by rw [e]; exact List.mem_append_left _ hx))
      exact ⟨n, DataW.trod_carry n _ _ _ hn (fun x hx => later_same hl (hlt x (by rw [e]; exact List.mem_append_left _ hx)))⟩,
      args_after K hz hl (fun t ht => hT t (List.mem_cons.2 (Or.inr ht))) h2 (fun x hx => hlt x (by rw [e]; exact List.mem_append_right _ hx)) (fun x hx => hs x (by rw [e]; exact List.mem_append_right _ hx)), e⟩
theorem post_of_later {f : Func} {s : ChangeSpec} {apart fresh handsOn again : Bool} {args : Array Value} {v : Value} {ds gs : List (DataW H)} {before pa pv : List MemPlace}
    (hW : DataW.Whole enc P f.params.toList s.vars apart W args.toList ds gs before)
    (hres : ∀ (b : Nat) (sp : Nat → Bool) (hd : Bool), DataW.TrodAll enc P W' b sp hd f.resultTypes.toList (v.resultList f.resultTypes.size) (s.fn H (ds ++ gs)).results [])
    (hargs : ∀ sp : Nat → Bool, (∀ p ∈ before, sp p.block = true) → DataW.TrodAll enc P W' 0 sp true f.params.toList args.toList (s.fn H (ds ++ gs)).args pa)
    (hvars : ∀ sp : Nat → Bool, (∀ p ∈ before, sp p.block = true) → DataW.TrodVars enc P W' sp s.vars (s.fn H (ds ++ gs)).vars pv)
    (hps : before = pa ++ pv) (hl : PK.Later W W')
    (hok : ∀ (j : Nat) (t : TypeId) (r : Value), f.resultTypes[j]? = some t → (v.resultList f.resultTypes.size)[j]? = some r → Value.okWide P W' .any 0 t r) :
    s.post enc P f apart fresh handsOn again W args v W' := by
  have hold : ∀ p ∈ before, (fun b => decide (b < W.heap.size)) p.block = true := fun p hp => by simpa using hW.lt p hp
  have hlt := fun p hp => hW.lt p hp
  refine ⟨ds, gs, before, [], pa, pv, hW, hres _ _ _, hargs _ hold, hvars _ hold, hl.frame _, fun _ => ?_⟩
  · obtain ⟨_, _, _, _, _, hz, hn⟩ := hW
    refine ⟨hok, _, _, ([] ++ pa) ++ pv, ⟨[] ++ pa, pv, trodAll_append (hargs _ (fun _ _ => rfl)) (hres _ _ _), hvars _ (fun _ _ => rfl), rfl, ?_, ?_⟩, ?_⟩
    · intro b off hp
      have hp' := hp
      rw [List.nil_append, ← hps] at hp'
      rw [Below.frozen hl (hlt _ hp')]
      exact hz b off hp'
    · intro ha
      have := hn ha
      rw [hps] at this
      simpa using this
    · intro p hp _
      rw [hps]
      simpa using hp
theorem post_true {f : Func} {s : ChangeSpec} {apart fresh handsOn again : Bool} {args : Array Value} {ds : List (DataW H)} {before : List MemPlace} {tb : TypeId}
    (hK : laidOutB P = true) (hm : mapsRowed P = true) (hsl : ((List.range P.types.size).all fun t => match P.underlying t with | some (.slice e) => decide (0 < P.cellsOf e) | _ => true) = true)
    (hts : (f.params.toList.all fun t => decide (t < P.types.size)) = true) (hrt : f.resultTypes = #[tb]) (hb : P.underlying tb = some .bool) (hv : s.vars = [])
    (hW : DataW.Whole enc P f.params.toList s.vars apart W args.toList ds [] before) (hfn : s.fn H ds = { results := [.lit (.bool true)], args := ds }) (hl : PK.Later W W') :
    s.post enc P f apart fresh handsOn again W args (.bool true) W' := by
  have hW' := hW
  have hlt : ∀ p ∈ before, p.block < W.heap.size := fun p hp => hW.lt p hp
  obtain ⟨p, q, hA, hV, hpq, hfz, hnd⟩ := hW
  rw [hv] at hV
  obtain ⟨_, rfl⟩ := trodVars_none hV
  rw [List.append_nil] at hpq
  subst hpq
  refine post_of_later (pa := before) (pv := []) hW' (fun _ _ _ => ?_) (fun sp hsp => ?_) (fun _ _ => ?_) (by simp) hl (ok_one hrt rfl (okWide_bool_mk hb _))
  · rw [List.append_nil, hfn, hrt]; exact trodAll_cons_mk (shut_bool hb _) trodAll_mk0
  · rw [List.append_nil, hfn]
    exact args_after (kids_rows hK hm) (slices_full_of P hsl) hl (fun t ht => of_decide_eq_true (List.all_eq_true.1 hts t ht)) hA hlt hsp
  · rw [List.append_nil, hfn, hv]; exact rfl
structure Rdr {α : Type} (P : Program) (t : TypeId) (T : Ty α) : Prop where
  size : P.cellsOf t = T.size
  pos : 0 < T.size
  rd : ∀ {H : Type} {enc : TypeId × Value → H} {w : World} {base : Nat} {sp : Nat → Bool} {held : Bool} {fuel : Nat} {cs : List Value} {x : DataW H × List MemPlace}, DataW.trod enc P w base sp held fuel t cs = some x → ∃ y, T.rd (fun _ => True) w cs y
def tyI : Ty Int where
  size := 1
  rd := fun _ _ cs x => cs = [.int .i64 x] ∧ in64 x
  len := fun h => by rw [h.1]; rfl
  keep := fun h _ => h
theorem trod_rd {α : Type} {T : Ty α} {t e : TypeId} {fuel base : Nat} {sp : Nat → Bool} {held : Bool} {w : World} {cs : List Value} {x : DataW H × List MemPlace} (ht : P.underlying t = some (.slice e)) (R : Rdr P e T) (h : DataW.trod enc P w base sp held fuel t cs = some x) :
    ∃ v xs, cs = [v] ∧ sliceRd T (fun _ => True) w v xs ∧ ∃ a l c, v = .slice a l c := by
  rcases Go.Deep.open_slice ht h with ⟨rfl, _⟩ | ⟨a, len, cap, m, n, D, Pl, rfl, hb, hl, hm, hmm, _, hx⟩
  · exact ⟨_, [], rfl, ⟨none, 0, rfl, Nat.le_refl _, Nat.zero_le _, fun h => by simp at h⟩, _, _, _, rfl⟩
  · have hlm : len ≤ m := by rw [hmm]; split <;> omega
    have hx' : ∀ i, i < len → ∃ p : List Value × α, w.cells? base (a.add (i * P.cellsOf e)) (P.cellsOf e) = some p.1 ∧ T.rd (fun _ => True) w p.1 p.2 := fun i hi => by
      obtain ⟨cs', h1, h2⟩ := hx i (by omega)
      obtain ⟨y, hy⟩ := R.rd h2
      exact ⟨⟨cs', y⟩, h1, hy⟩
    rcases Nat.eq_zero_or_pos len with h0 | h0
    · subst h0
      exact ⟨_, [], rfl, ⟨some a, cap, rfl, Nat.zero_le _, Nat.zero_le _, fun h => by simp at h⟩, _, _, _, rfl⟩
    · have hspot : a.spot = none := by
        obtain ⟨p, h1, h2⟩ := hx' 0 h0
        have hpl : 0 < P.cellsOf e := by rw [R.size]; exact R.pos
        unfold World.cells? at h1
        split at h1
        · have := mapM_some_get h1 0 0 (by rw [List.getElem?_range hpl])
          have hlen : p.1.length = P.cellsOf e := by simpa using mapM_some_length h1
          rw [List.getElem?_eq_getElem (by omega)] at this
          have e0 : (a.add (0 * P.cellsOf e)).add 0 = a := by simp [Addr.add]
          rw [e0] at this
          unfold World.cell? at this
          split at this
          · split at this
            · cases this
            · rename_i hns; simpa using hns
          · cases this
        · cases h1
      obtain ⟨b, off, sp'⟩ := a
      simp only at hspot
      subst hspot
      let F : (i : Nat) → (i < len) → List Value × α := fun i hi => (hx' i hi).choose
      have hF : ∀ i (hi : i < len), w.cells? base ((⟨b, off, none⟩ : Addr).add (i * P.cellsOf e)) (P.cellsOf e) = some (F i hi).1 ∧ T.rd (fun _ => True) w (F i hi).1 (F i hi).2 := fun i hi => (hx' i hi).choose_spec
      refine ⟨_, List.ofFn (fun i : Fin len => (F i.1 i.2).2), rfl, ⟨_, cap, by rw [List.length_ofFn], by rw [List.length_ofFn]; exact hl, by rw [List.length_ofFn]; unfold maxLen at hm; omega, fun _ => ⟨b, off, rfl, trivial, ?_, fun j hj => ?_⟩⟩, _, _, _, rfl⟩
      · obtain ⟨h1, h2⟩ := hF 0 h0
        have hpl : 0 < P.cellsOf e := by rw [R.size]; exact R.pos
        unfold World.cells? at h1
        split at h1
        · have := mapM_some_get h1 0 0 (by rw [List.getElem?_range hpl])
          have hlen : (F 0 h0).1.length = P.cellsOf e := by simpa using mapM_some_length h1
          rw [List.getElem?_eq_getElem (by omega)] at this
          have := cell_lt this
          simpa [Addr.add] using this
        · cases h1
      · have hj' : j < len := by simpa using hj
        obtain ⟨h1, h2⟩ := hF j hj'
        refine ⟨(F j hj').1, fun i hi => ?_, by simpa using h2⟩
        unfold World.cells? at h1
        split at h1
        · have hlen : (F j hj').1.length = P.cellsOf e := by simpa using mapM_some_length h1
          have := mapM_some_get h1 i i (by rw [List.getElem?_range (by omega)])
          rw [List.getElem?_eq_getElem hi, mk_add, mk_add, R.size] at this
          exact this
        · cases h1
end
section
variable {H : Type} {enc : TypeId × Value → H} {P : Program} {W : World} {base b0 : Nat} {sp : Nat → Bool} {held : Bool} {r : Reach} {t e : TypeId} {v : Value} {d : DataW H} {ps : List MemPlace}
theorem top_slice {α : Type} {T : Ty α} (ht : P.underlying t = some (.slice e)) (R : Rdr P e T) (hval : Value.okWide P W r b0 t v) (h : DataW.Trod enc P W base sp held t v d ps) : ∃ xs, sliceRd T (fun _ => True) W v xs := by
  obtain ⟨n, hn⟩ := h
  obtain ⟨v', xs, hc, hrd, a, l, c, rfl⟩ := trod_rd ht R hn
  have : v = .slice a l c := by
    cases v <;> simp_all [Value.okWide, Cell.okWide, Cell.ok, Value.cells]
  subst this
  exact ⟨xs, hrd⟩
end
end Go.PK

namespace Go.PK
open Go Go.ChangeShapes Go.WideShapes Go.ChangeAt Go.RowKit
section
variable {H : Type} {enc : TypeId × Value → H} {P : Program} {W : World} {base b0 : Nat} {sp : Nat → Bool} {held : Bool} {r : Reach} {t e : TypeId} {v : Value} {d : DataW H} {ps : List MemPlace}
end
end Go.PK

namespace Go.PK
open Go Go.RowKit
section
variable {P : Program} {n : Nat} {l : List (Nat × Value)} {own : List (Nat × Obj)} {ro : List Snap} {ty : TypeId} {x : Operand}
theorem v_extract {vs : Array Value} {i : Nat} {v : Value} (hx : ev l x = some (.tuple vs)) (hv : vs[i]? = some v) : OpV P n l own ro (.extract x i) ty v := by
  intro A w o ha _ ho _
  simp [execOp, ho, ha.eval hx, Instr.extract, hv]
end
end Go.PK

namespace Go.PK
open Go Go.RowKit
def leapP (y : Int) : Bool := decide (y % 4 = 0) && (decide (y % 100 ≠ 0) || decide (y % 400 = 0))
def mlen (y m : Int) : Int := if m = 4 ∨ m = 6 ∨ m = 9 ∨ m = 11 then 30 else if m = 2 then (if leapP y = true then 29 else 28) else 31
def NY (y : Int) : Int := -719162 + 365 * (y - 1) + (y - 1) / 4 - (y - 1) / 100 + (y - 1) / 400
def moff (y : Int) : Nat → Int
  | 0 => 0
  | k + 1 => moff y k + mlen y ((k + 1 : Nat) : Int)
theorem leap_iff (y : Int) : leapP y = true ↔ y % 4 = 0 ∧ (y % 100 ≠ 0 ∨ y % 400 = 0) := by simp [leapP]
theorem mlen_rng (y m : Int) : 28 ≤ mlen y m ∧ mlen y m ≤ 31 := by unfold mlen; split <;> (try split) <;> (try split) <;> omega
theorem NY_succ {y : Int} : NY (y + 1) = NY y + (if leapP y = true then 366 else 365) := by
  have h := leap_iff y
  unfold NY
  split
  · rename_i hl; have := h.1 hl; omega
  · rename_i hl
    have : ¬(y % 4 = 0 ∧ (y % 100 ≠ 0 ∨ y % 400 = 0)) := fun x => hl (h.2 x)
    omega
theorem moff12 (y : Int) : moff y 12 = if leapP y = true then 366 else 365 := by
  simp only [moff, mlen]
  cases leapP y <;> simp
theorem NY_next (y : Int) : NY (y + 1) = NY y + moff y 12 := by rw [NY_succ, moff12]
theorem NY_lt (y : Int) : NY y + 365 ≤ NY (y + 1) := by rw [NY_succ]; split <;> omega
theorem NY_mono (y : Int) : ∀ n : Nat, NY y ≤ NY (y + n)
  | 0 => by simp
  | n + 1 => by
    have h1 := NY_mono y n
    have h2 := NY_lt (y + n)
    have e : y + ((n + 1 : Nat) : Int) = y + n + 1 := by omega
    rw [e]; omega
theorem NY_le {y z : Int} (h : y ≤ z) : NY y ≤ NY z := by
  have := NY_mono y (z - y).toNat
  rwa [show y + (((z - y).toNat : Nat) : Int) = z by omega] at this
theorem moff_mono (y : Int) (k : Nat) : ∀ n : Nat, moff y k ≤ moff y (k + n)
  | 0 => Int.le_refl _
  | n + 1 => by
    have h1 := moff_mono y k n
    have h2 := mlen_rng y ((k + n + 1 : Nat) : Int)
    show moff y k ≤ moff y (k + n) + mlen y ((k + n + 1 : Nat) : Int)
    omega
theorem moff_le {y : Int} {k m : Nat} (h : k ≤ m) : moff y k ≤ moff y m := by
  have := moff_mono y k (m - k)
  rwa [show k + (m - k) = m by omega] at this
theorem moff_nonneg (y : Int) (k : Nat) : 0 ≤ moff y k := moff_le (Nat.zero_le k)
def dayN (y : Int) (m : Nat) (d : Int) : Int := NY y + d - 1 + moff y (m - 1)
structure Civ (day y : Int) (m : Nat) (d : Int) : Prop where
  y1 : 1 ≤ y
  m1 : 1 ≤ m
  m2 : m ≤ 12
  d1 : 1 ≤ d
  d2 : d ≤ mlen y m
  is : dayN y m d = day
theorem moff_pred (y : Int) {m : Nat} (h : 1 ≤ m) : moff y m = moff y (m - 1) + mlen y m := by
  obtain ⟨k, rfl⟩ : ∃ k, m = k + 1 := ⟨m - 1, by omega⟩
  rfl
theorem Civ.year {day y d : Int} {m : Nat} (h : Civ day y m d) : NY y ≤ day ∧ day < NY (y + 1) := by
  have h1 := moff_nonneg y (m - 1)
  have h2 := moff_pred y h.m1
  have h3 := moff_le (y := y) h.m2
  have h4 := NY_next y
  have := h.is; have := h.d1; have := h.d2
  unfold dayN at this
  have e := h.is
  unfold dayN at e
  omega
def okDay (day : Int) : Prop := -719162 ≤ day ∧ day ≤ 2932896
instance (day : Int) : Decidable (okDay day) := by unfold okDay; infer_instance
theorem NY_first : NY 1 = -719162 := by decide
theorem NY_last : NY 10000 = 2932897 := by decide
theorem Civ.range {day y d : Int} {m : Nat} (h : Civ day y m d) : okDay day ↔ y ≤ 9999 := by
  have a := h.year
  constructor
  · intro hd
    rcases Int.lt_or_le y 10000 with hl | hl
    · omega
    · have := NY_le hl; rw [NY_last] at this; unfold okDay at hd; omega
  · intro hy
    have h1 := NY_le h.y1
    have h2 := NY_le (show y + 1 ≤ 10000 by omega)
    rw [NY_first] at h1
    rw [NY_last] at h2
    unfold okDay; omega
end Go.PK

namespace Go.PK
open Go Go.RowKit
section
variable {P : Program} {n : Nat} {l : List (Nat × Value)} {own : List (Nat × Obj)} {ro : List Snap} {ty : TypeId} {x y : Operand} {t t' : TypeId} {k k' : IntKind} {a b : Int}
theorem v_min {tys : Array TypeId} (hx : ev l x = some (.int k a)) (hy : ev l y = some (.int k' b)) : OpV P n l own ro (.call ⟨.builtin .min, #[x, y], tys⟩) ty (.int k (min a b)) := by
  intro A w o ha _ ho _
  have e : (if b < a then b else a) = min a b := by omega
  simp [execOp, ho, resolve, invoke, builtin, ha.eval hx, ha.eval hy, Builtin.min_, Builtin.min2, e]
theorem v_shr (hx : ev l x = some (.int k a)) (hy : ev l y = some (.int k' b)) (h0 : 0 ≤ b) {c : Int} (hc : a / 2 ^ min b.toNat k.bits = c) : OpV P n l own ro (.binOp .shr t x y t') ty (.int k c) := by
  intro A w o ha _ ho _
  have hp : (0 : Int) ≤ 2 ^ min b.toNat k.bits := Int.pow_nonneg (by decide)
  have h1 : ¬ b < 0 := by omega
  simp [execOp, ho, ha.eval hx, ha.eval hy, eqGuard, binOp, Op.shift, h1, Int.fdiv_eq_ediv_of_nonneg _ hp, hc]
end
end Go.PK

namespace Go.PK
open Go Go.RowKit
section
variable {P : Program} {n : Nat} {l : List (Nat × Value)} {own : List (Nat × Obj)} {ro : List Snap} {ty : TypeId} {x y : Operand} {t t' : TypeId}
theorem v_nilCheck {a : Addr} (hx : ev l x = some (.pointer (some a))) : OpV P n l own ro (.nilCheck x) ty (.pointer (some a)) := by
  intro A w o ha _ ho _
  simp [execOp, ho, ha.eval hx]
theorem Mem.fresh {w w0 : World} {b : Nat} {o : Obj} {rest own0 : List (Nat × Obj)} {ro : List Snap} (h : Mem w ((b, o) :: rest) ro) (hs : (w0, notOwn own0) ∈ ro) (he : own0.map (·.1) = rest.map (·.1)) : w0.heap.size ≤ b :=
  h.apart (b, o) (.head _) _ hs (fun q hq e => by
    have hnd := h.own_nd
    simp only [List.map_cons, List.nodup_cons] at hnd
    have e : q.1 = b := e
    exact hnd.1 (by rw [← he, ← e]; exact List.mem_map_of_mem hq))
variable {lops : List Oper} {Q : Exit → Act → World → Prop} {K : Act → World → Prop} {rest : List (Option Bool × Nat)} {i d : Nat} {pos : String} {af : Array Edge}
theorem x_turn_n {τ : Type} {f : FuncId} {fn : Func} {xs : Array Operand} {tys : Array TypeId} {vs : List Value} (R : τ → Value → World → World → Prop) (O : τ → List (Nat × Obj)) (ho : lops[i]? = some ⟨some d, .call ⟨.value (.func f), xs, tys⟩, ty, pos, af, none⟩) (hd : decide (d < n) = true)
    (hf : P.funcs[f]? = some fn) (hbody : (!(fn.name == "runtime.NumGoroutine") && fn.body.isSome) = true) (hx : evs l xs.toList = some vs)
    (hc : ∀ w, Mem w own ro → Calls P f vs.toArray w fun e w' => ∃ v, e = .returned v ∧ ∃ x, R x v w w' ∧ Mem w' (O x) ro)
    (h : ∀ v x w1 w2, Mem w1 own ro → R x v w1 w2 → Mem w2 (O x) ro → WX P lops.toArray Q K rest n ((d, v) :: l) (O x) ((w2, notOwn (O x)) :: ro)) : WX P lops.toArray Q K ((none, i) :: rest) n l own ro := by
  intro a w ha hw
  have hd' : d < n := of_decide_eq_true hd
  have hw1 := go_none (lops := lops) (n := n) (l := l) (o := ⟨some d, .call ⟨.value (.func f), xs, tys⟩, ty, pos, af, none⟩) rfl a ha
  simp only [wpX, List.getElem?_toArray, ho]
  intro w' hl
  rw [if_pos hw1]
  unfold Oper.wp
  rw [run_callv (c := .func f) (fst := #[]) (cap := #[]) rfl ha rfl hf hbody hx]
  have hc' := hc w' (hw.later hl)
  have hc2 : Calls P f ((#[] : Array Value) ++ vs.toArray ++ #[]) w' fun e w2 => ∃ v, e = .returned v ∧ ∃ x, R x v w' w2 ∧ Mem w2 (O x) ro := by simpa using hc'
  refine Calls.mono hc2 fun e w2 he => ?_
  obtain ⟨v, rfl, x, hr, hm⟩ := he
  exact h v x w' w2 (hw.later hl) hr hm _ w2 (ha.put v hd') hm.snap
theorem x_turnf {τ : Type} {f : FuncId} {fn : Func} {xs : Array Operand} {tys : Array TypeId} {vs : List Value} {v : Value} (R : τ → Prop) (O : τ → List (Nat × Obj)) (ho : lops[i]? = some ⟨some d, .call ⟨.value (.func f), xs, tys⟩, ty, pos, af, none⟩) (hd : decide (d < n) = true)
    (hf : P.funcs[f]? = some fn) (hbody : (!(fn.name == "runtime.NumGoroutine") && fn.body.isSome) = true) (hx : evs l xs.toList = some vs)
    (hc : ∀ w, Mem w own ro → Calls P f vs.toArray w fun e w' => e = .returned v ∧ ∃ x, R x ∧ Mem w' (O x) ro)
    (h : ∀ x, R x → WX P lops.toArray Q K rest n ((d, v) :: l) (O x) ro) : WX P lops.toArray Q K ((none, i) :: rest) n l own ro :=
  x_turn (fst := #[]) (cap := #[]) R O ho hd rfl hf hbody hx (fun w hw => by simpa using hc w hw) h
end
end Go.PK

namespace Go.PK
open Go Go.RowKit
def Ty.map {α β : Type} (T : Ty α) (f : α → β) : Ty β where
  size := T.size
  rd := fun D w cs y => ∃ x, T.rd D w cs x ∧ f x = y
  len := fun ⟨x, h, _⟩ => T.len h
  keep := fun ⟨x, h, e⟩ k => ⟨x, T.keep h k, e⟩
def tyK (k : IntKind) : Ty Int where
  size := 1
  rd := fun _ _ cs x => cs = [.int k x] ∧ k.min ≤ x ∧ x ≤ k.max
  len := fun h => by rw [h.1]; rfl
  keep := fun h _ => h
section
variable {P : Program}
theorem wf_k {k : IntKind} {n : Int} (h : (Lit.int k n).wf = true) : k.min ≤ n ∧ n ≤ k.max := by
  simpa only [Lit.wf, Bool.and_eq_true, decide_eq_true_eq] using h
theorem rdr_k {t : TypeId} {k : IntKind} (ht : P.underlying t = some (.int k)) (hc : P.cellsOf t = 1) : Rdr P t (tyK k) :=
  ⟨hc, Nat.one_pos, fun h => by obtain ⟨n, rfl, _, hw⟩ := DataW.trod_int ht h; exact ⟨n, rfl, wf_k hw⟩⟩
variable {H : Type} {enc : TypeId × Value → H} {W : World} {base b0 : Nat} {sp : Nat → Bool} {held : Bool} {r : Reach} {t e : TypeId} {v : Value} {d : DataW H} {ps : List MemPlace}
theorem top_k {k : IntKind} (ht : P.underlying t = some (.int k)) (hval : Value.okWide P W r b0 t v) (h : DataW.Trod enc P W base sp held t v d ps) : ∃ n, v = .int k n ∧ k.min ≤ n ∧ n ≤ k.max := by
  obtain ⟨m, hm⟩ := h
  obtain ⟨n, hc, _, hw⟩ := DataW.trod_int ht hm
  refine ⟨n, ?_, wf_k hw⟩
  cases v <;> simp_all [Value.okWide, Cell.okWide, Cell.ok, Value.cells]
theorem top_bool (ht : P.underlying t = some .bool) (hval : Value.okWide P W r b0 t v) (h : DataW.Trod enc P W base sp held t v d ps) : ∃ b, v = .bool b := by
  obtain ⟨m, hm⟩ := h
  obtain ⟨n, hc, _⟩ := DataW.trod_bool ht hm
  refine ⟨n, ?_⟩
  cases v <;> simp_all [Value.okWide, Cell.okWide, Cell.ok, Value.cells]
end
end Go.PK

namespace Go.PK
open Go Go.RowKit
end Go.PK

namespace Go.PK
open Go Go.RowKit
theorem int_at {D : Nat → Prop} {w : World} {A : Option Addr} {l c : Nat} {xs : List Int} (h : sliceRd tyI D w (.slice A l c) xs) {k : Nat} (hk : k < xs.length) :
    ∃ b off, A = some ⟨b, off, none⟩ ∧ D b ∧ w.cell? ⟨b, off + k, none⟩ = some (.int .i64 xs[k]) ∧ in64 xs[k] := by
  obtain ⟨A', c', e, h1, h2, h3⟩ := h
  injection e with e1 e2 e3
  obtain ⟨b, off, hA, hD, hb, hc⟩ := h3 (by omega)
  obtain ⟨cs, hcs, rfl, hok⟩ := hc k hk
  have := hcs 0 (by simp)
  exact ⟨b, off, e1.trans hA, hD, by simpa [tyI] using this, hok⟩
end Go.PK

namespace Go.PK
open Go Go.RowKit
theorem rowI_T {D : Nat → Prop} {ws : World} {r : RowS} {ds : List Int} {n : Nat} (hr : rowOK 1 r n (ds.map (Value.int .i64))) (hn : n = ds.length) (hin : ∀ d ∈ ds, in64 d) : RowT tyI D ws r ds := by
  subst hn
  refine ⟨ds.map fun d => [.int .i64 d], by simp, ?_, fun j h1 h2 => ?_⟩
  · have e : (ds.map fun d => [Value.int .i64 d]).flatten = ds.map (Value.int .i64) := by
      clear hr hin
      induction ds with
      | nil => rfl
      | cons x xs ih => simp [ih]
    rw [e]; exact hr
  · rw [List.getElem_map]
    exact ⟨rfl, hin _ (List.getElem_mem h2)⟩
theorem rowI_rd {D : Nat → Prop} {w : World} {own : List (Nat × Obj)} {ro : List Snap} {e : TypeId} {r : RowS} {ds : List Int} {n : Nat} (hr : rowOK 1 r n (ds.map (Value.int .i64))) (hn : n = ds.length) (hi : ∀ d ∈ ds, in64 d)
    (hm : Mem w own ro) (hin : ∀ p ∈ rowO e r, p ∈ own) (hD : ∀ p ∈ rowO e r, D p.1) : sliceRd tyI D w (rowV r n) ds :=
  (rowI_T (D := fun _ => False) (ws := w) hr hn hi).rd hm hin (fun _ h => h.elim) hD hn
end Go.PK

namespace Go.PK
open Go Go.RowKit Go.Maps
structure MapC (P : Program) (kt : TypeId) (es : Array MapEntry) (ck : Nat) (f : Value → Option Value) : Prop where
  f : MapF P kt es f
  born : ∀ (i : Nat) (e : MapEntry), es[i]? = some e → e.born < ck
  once : ∀ (i j : Nat) (e e' : MapEntry), es[i]? = some e → es[j]? = some e' → e.born = e'.born → i = j
theorem MapC.empty {P : Program} {kt : TypeId} : MapC P kt #[] 0 (fun _ => none) := ⟨MapF.empty, by simp, by simp⟩
section
variable {P : Program} {kt : TypeId} {es : Array MapEntry} {ck : Nat} {f : Value → Option Value}
theorem MapC.push (h : MapC P kt es ck f) {x v : Value} {lx : Lit} (hx : keyOf P kt x = some lx) (hf : f x = none) : MapC P kt (es.push ⟨x, v, ck⟩) (ck + 1) (fupd f x v) where
  f := h.f.push hx hf
  born := fun i e he => by
    rw [Array.getElem?_push] at he
    split at he
    · cases he; exact Nat.lt_succ_self _
    · exact Nat.lt_succ_of_lt (h.born i e he)
  once := fun i j e e' h1 h2 hb => by
    rw [Array.getElem?_push] at h1 h2
    split at h1 <;> split at h2
    · subst_vars; rfl
    · cases h1; have := h.born j e' h2; dsimp only at hb; omega
    · cases h2; have := h.born i e h1; dsimp only at hb; omega
    · exact h.once i j e e' h1 h2 hb
theorem MapC.put (h : MapC P kt es ck f) {x v : Value} {lx : Lit} {j : Nat} {e0 : MapEntry} (hx : keyOf P kt x = some lx) (h0 : es[j]? = some e0) (hk0 : e0.key = x) :
    MapC P kt (es.modify j fun e => { e with key := x, val := v }) ck (fupd f x v) where
  f := h.f.put hx h0 hk0
  born := fun i e he => by
    rw [Array.getElem?_modify] at he
    split at he
    · subst_vars
      rw [h0] at he
      cases he
      exact h.born _ e0 h0
    · exact h.born i e he
  once := fun i j' e e' h1 h2 hb => by
    rw [Array.getElem?_modify] at h1 h2
    have key : ∀ k (d : MapEntry), (if j = k then (es[k]?).map (fun e => { e with key := x, val := v }) else es[k]?) = some d → ∃ d', es[k]? = some d' ∧ d'.born = d.born := fun k d hd => by
      split at hd
      · subst_vars
        rw [h0] at hd
        cases hd
        exact ⟨e0, h0, rfl⟩
      · exact ⟨d, hd, rfl⟩
    obtain ⟨d1, a1, a2⟩ := key i e h1
    obtain ⟨d2, b1, b2⟩ := key j' e' h2
    exact h.once i j' d1 d2 a1 b1 (by rw [a2, b2, hb])
theorem MapC.stamped (h : MapC P kt es ck f) : MapKept.Stamped es ck := by
  have key : ∀ {β : Type} (g : MapEntry → β), (∀ (i j : Nat) (e e' : MapEntry), es[i]? = some e → es[j]? = some e' → g e = g e' → i = j) → (es.toList.map g).Nodup := fun g hg => by
    refine List.pairwise_iff_getElem.2 fun i j hi hj hij heq => ?_
    rw [List.length_map] at hi hj
    rw [List.getElem_map, List.getElem_map] at heq
    have := hg i j _ _ (by rw [← Array.getElem?_toList]; exact List.getElem?_eq_getElem hi) (by rw [← Array.getElem?_toList]; exact List.getElem?_eq_getElem hj) heq
    omega
  refine ⟨fun x hx => ?_, key _ h.once, key _ h.f.one⟩
  obtain ⟨i, hi⟩ := List.getElem?_of_mem hx
  exact h.born i x (by simpa using hi)
end
section
variable {P : Program} {n : Nat} {l : List (Nat × Value)} {own : List (Nat × Obj)} {ro : List Snap} {lops : List Oper} {Q : Exit → Act → World → Prop} {K : Act → World → Prop}
  {rest : List (Option Bool × Nat)} {i d b : Nat} {ty t kt e : TypeId} {pos : String} {af : Array Edge} {x y m : Operand} {es : Array MapEntry} {clock : Nat} {f : Value → Option Value}
theorem x_mapUpdateC {u v : Value} {lx : Lit} (l1 : List (Nat × Obj)) {l2 : List (Nat × Obj)} (ho : lops[i]? = some ⟨none, .mapUpdate t m x y, ty, pos, af, none⟩) (hm : ev l m = some (.map (some b))) (hx : ev l x = some u) (hy : ev l y = some v)
    (ht : P.underlying t = some (.map kt e)) (KK : Keyed P kt) (hkey : keyOf P kt u = some lx) (hown : own = l1 ++ (b, .map es clock) :: l2) (hf : MapC P kt es clock f)
    (h : ∀ es' clock', MapC P kt es' clock' (fupd f u v) → WX P lops.toArray Q K rest n l (l1 ++ (b, .map es' clock') :: l2) ro) : WX P lops.toArray Q K ((none, i) :: rest) n l own ro := by
  subst hown
  intro a w ha hw
  have hw1 := go_none (lops := lops) (n := n) (l := l) (o := ⟨none, .mapUpdate t m x y, ty, pos, af, none⟩) rfl a ha
  simp only [wpX, List.getElem?_toArray, ho]
  intro w' hl
  rw [if_pos hw1]
  have hM := hw.later hl
  have hg : w'.heap[b]? = some (.map es clock) := hM.own_at (b, _) (by simp)
  have hrun : ∃ es' clock', MapC P kt es' clock' (fupd f u v) ∧ (Instr.mapUpdate t (.map (some b)) u v).run P w' = .ok () { w' with heap := w'.heap.setIfInBounds b (.map es' clock') } := by
    rcases hf.f.find KK hkey w' with ⟨h1, h2⟩ | ⟨j, e0, h1, h2, h3, h4⟩
    · exact ⟨_, clock + 1, hf.push (v := v) hkey h2, by simp [Instr.mapUpdate, run_underlying ht, MapKept.run_getObj_map hg, KK.check w' false hkey, h1, MapKept.run_setObj_map _ hg, Result.andThen]⟩
    · refine ⟨_, clock, hf.put (v := v) hkey h2 h3, ?_⟩
      have hs : (Instr.keyThatStays (((es[j]?).map (·.key)).getD u) u).run P w' = .ok u w' := by
        rw [h2]; simp only [Option.map_some, Option.getD_some, h3]; exact KK.stays w' hkey
      simp only [Instr.mapUpdate, Sem.run_bind, run_underlying ht, Result.andThen_ok, MapKept.run_getObj_map hg, KK.check w' false hkey, h1, hs, MapKept.run_setObj_map _ hg]
  obtain ⟨es', clock', hf', hr⟩ := hrun
  unfold Oper.wp
  have hr2 : (execOp a.eval ⟨none, .mapUpdate t m x y, ty, pos, af, none⟩).run P w' = .ok .skip { w' with heap := w'.heap.setIfInBounds b (.map es' clock') } := by
    simp only [execOp, ha.eval hm, ha.eval hx, ha.eval hy, Sem.run_bind, hr, Result.andThen_ok, Sem.run_pure]
  rw [hr2]
  show wpX P lops.toArray Q K rest (a.put none undef) _
  exact h es' clock' hf' a _ ha (hM.turn (turned_obj hg))
end
theorem wf_in {n : Int} (h : in64 n) : (Lit.int .i64 n).wf = true := by
  unfold in64 at h
  simp only [Lit.wf, Bool.and_eq_true, decide_eq_true_eq]
  have h1 : IntKind.i64.min = -9223372036854775808 := by decide
  have h2 : IntKind.i64.max = 9223372036854775807 := by decide
  omega
def kInt : Value → Int
  | .int _ n => n
  | _ => 0
def keysIs (f : Value → Option Value) (ids : List Int) : Prop := ids.Nodup ∧ ∀ v, (f v).isSome = true ↔ ∃ id ∈ ids, v = .int .i64 id
section
variable {P : Program} {kt : TypeId} {es : Array MapEntry} {ck : Nat} {f : Value → Option Value} {ids : List Int}
theorem MapC.mem (h : MapC P kt es ck f) (v : Value) : (∃ e ∈ es.toList, e.key = v) ↔ (f v).isSome = true := by
  constructor
  · rintro ⟨e, he, rfl⟩
    obtain ⟨i, hi⟩ := List.getElem?_of_mem he
    rw [h.f.val i e (by simpa using hi)]; rfl
  · intro hv
    obtain ⟨u, hu⟩ := Option.isSome_iff_exists.1 hv
    obtain ⟨i, e, h1, h2, _⟩ := h.f.has v u hu
    exact ⟨e, List.mem_of_getElem? (i := i) (by simpa using h1), h2⟩
theorem MapC.keys (h : MapC P kt es ck f) (hk : keysIs f ids) : (es.toList.map fun e => kInt e.key).Perm ids := by
  have hnd := h.stamped.2.2
  have hint : ∀ e ∈ es.toList, ∃ id ∈ ids, e.key = .int .i64 id := fun e he => (hk.2 e.key).1 ((h.mem e.key).1 ⟨e, he, rfl⟩)
  refine (List.perm_ext_iff_of_nodup ?_ hk.1).2 fun z => ?_
  · have h1 : es.toList.Pairwise (fun a b => a.key ≠ b.key) := List.pairwise_map.1 hnd
    refine List.pairwise_map.2 (h1.imp_of_mem fun {a b} ha hb hne he => hne ?_)
    obtain ⟨x, _, hx⟩ := hint a ha
    obtain ⟨y, _, hy⟩ := hint b hb
    rw [hx, hy] at he ⊢
    exact congrArg _ he
  · rw [List.mem_map]
    constructor
    · rintro ⟨e, he, rfl⟩
      obtain ⟨x, hx, hk⟩ := hint e he
      rw [hk]; exact hx
    · intro hz
      obtain ⟨e, he, hk⟩ := (h.mem (.int .i64 z)).2 ((hk.2 _).2 ⟨z, hz, rfl⟩)
      exact ⟨e, he, by rw [hk]; rfl⟩
theorem MapC.size (h : MapC P kt es ck f) (hk : keysIs f ids) : es.size = ids.length := by
  have := (h.keys hk).length_eq
  rwa [List.length_map, Array.length_toList] at this
end
end Go.PK

namespace Go.PK
open Go Go.RowKit Go.Maps
def runesF (s : ByteArray) : Nat → Nat → List Nat
  | 0, _ => []
  | n + 1, i => if i < s.size then (Utf8.decode s i).1 :: runesF s n (i + (Utf8.decode s i).2) else []
def runesAt (s : ByteArray) (i : Nat) : List Nat := runesF s (s.size - i) i
def runes (s : ByteArray) : List Nat := runesAt s 0
def rowsT : List (ByteArray × ByteArray) := [(⟨#[97]⟩, ⟨#[195, 160, 195, 161, 195, 162, 195, 163, 195, 164, 195, 165, 196, 129, 196, 131, 196, 133, 195, 128, 195, 129, 195, 130, 195, 131, 195, 132, 195, 133, 196, 128, 196, 130, 196, 132]⟩),
  (⟨#[99]⟩, ⟨#[195, 167, 196, 135, 196, 137, 196, 139, 196, 141, 195, 135, 196, 134, 196, 136, 196, 138, 196, 140]⟩),
  (⟨#[100]⟩, ⟨#[196, 143, 196, 145, 195, 176, 196, 142, 196, 144, 195, 144]⟩),
  (⟨#[101]⟩, ⟨#[195, 168, 195, 169, 195, 170, 195, 171, 196, 147, 196, 149, 196, 151, 196, 153, 196, 155, 195, 136, 195, 137, 195, 138, 195, 139, 196, 146, 196, 148, 196, 150, 196, 152, 196, 154]⟩),
  (⟨#[103]⟩, ⟨#[196, 157, 196, 159, 196, 161, 196, 163, 196, 156, 196, 158, 196, 160, 196, 162]⟩),
  (⟨#[104]⟩, ⟨#[196, 165, 196, 167, 196, 164, 196, 166]⟩),
  (⟨#[105]⟩, ⟨#[195, 172, 195, 173, 195, 174, 195, 175, 196, 169, 196, 171, 196, 173, 196, 175, 196, 177, 195, 140, 195, 141, 195, 142, 195, 143, 196, 168, 196, 170, 196, 172, 196, 174, 196, 176]⟩),
  (⟨#[106]⟩, ⟨#[196, 181, 196, 180]⟩),
  (⟨#[107]⟩, ⟨#[196, 183, 196, 182]⟩),
  (⟨#[108]⟩, ⟨#[196, 186, 196, 188, 196, 190, 197, 130, 196, 185, 196, 187, 196, 189, 197, 129]⟩),
  (⟨#[110]⟩, ⟨#[195, 177, 197, 132, 197, 134, 197, 136, 195, 145, 197, 131, 197, 133, 197, 135]⟩),
  (⟨#[111]⟩, ⟨#[195, 178, 195, 179, 195, 180, 195, 181, 195, 182, 195, 184, 197, 141, 197, 143, 197, 145, 198, 161, 195, 146, 195, 147, 195, 148, 195, 149, 195, 150, 195, 152, 197, 140, 197, 142, 197, 144, 198, 160]⟩),
  (⟨#[114]⟩, ⟨#[197, 149, 197, 151, 197, 153, 197, 148, 197, 150, 197, 152]⟩),
  (⟨#[115]⟩, ⟨#[197, 155, 197, 157, 197, 159, 197, 161, 197, 154, 197, 156, 197, 158, 197, 160]⟩),
  (⟨#[116]⟩, ⟨#[197, 163, 197, 165, 197, 167, 197, 162, 197, 164, 197, 166]⟩),
  (⟨#[117]⟩, ⟨#[195, 185, 195, 186, 195, 187, 195, 188, 197, 169, 197, 171, 197, 173, 197, 175, 197, 177, 197, 179, 198, 176, 195, 153, 195, 154, 195, 155, 195, 156, 197, 168, 197, 170, 197, 172, 197, 174, 197, 176, 197, 178, 198, 175]⟩),
  (⟨#[119]⟩, ⟨#[197, 181, 197, 180]⟩),
  (⟨#[121]⟩, ⟨#[195, 189, 195, 191, 197, 183, 195, 157, 197, 184, 197, 182]⟩),
  (⟨#[122]⟩, ⟨#[197, 186, 197, 188, 197, 190, 197, 185, 197, 187, 197, 189]⟩),
  (⟨#[97, 101]⟩, ⟨#[195, 166, 195, 134]⟩),
  (⟨#[111, 101]⟩, ⟨#[197, 147, 197, 146]⟩),
  (⟨#[115, 115]⟩, ⟨#[195, 159]⟩),
  (⟨#[116, 104]⟩, ⟨#[195, 190, 195, 158]⟩),
  (⟨#[206, 177]⟩, ⟨#[206, 172, 206, 134]⟩),
  (⟨#[206, 181]⟩, ⟨#[206, 173, 206, 136]⟩),
  (⟨#[206, 183]⟩, ⟨#[206, 174, 206, 137]⟩),
  (⟨#[206, 185]⟩, ⟨#[206, 175, 207, 138, 206, 144, 206, 138, 206, 170]⟩),
  (⟨#[206, 191]⟩, ⟨#[207, 140, 206, 140]⟩),
  (⟨#[207, 133]⟩, ⟨#[207, 141, 207, 139, 206, 176, 206, 142, 206, 171]⟩),
  (⟨#[207, 137]⟩, ⟨#[207, 142, 206, 143]⟩),
  (⟨#[208, 181]⟩, ⟨#[209, 145, 208, 129]⟩)]
def tabOf (l : List (ByteArray × ByteArray)) : List (Nat × ByteArray) := l.flatMap fun p => (runes p.2).map fun c => (c, p.1)
def tabR : List (Nat × ByteArray) := tabOf rowsT
def lookR (c : Nat) : Option ByteArray := (tabR.find? (fun p => p.1 == c)).map (·.2)
def spcB : ByteArray := ⟨#[32]⟩
def encB (c : Nat) : ByteArray := Utf8.encode (c : Int)
def foldC (c : Nat) : ByteArray :=
  if (97 ≤ c ∧ c ≤ 122) ∨ (48 ≤ c ∧ c ≤ 57) then encB c
  else if 65 ≤ c ∧ c ≤ 90 then encB (c + 32)
  else if c < 128 then spcB
  else if (768 ≤ c ∧ c ≤ 879) ∨ (65056 ≤ c ∧ c ≤ 65071) then ⟨#[]⟩
  else match lookR c with
    | some s => s
    | none => if c = 962 then encB 963
      else if (945 ≤ c ∧ c ≤ 969) ∨ (1072 ≤ c ∧ c ≤ 1103) then encB c
      else if (913 ≤ c ∧ c ≤ 937 ∧ c ≠ 930) ∨ (1040 ≤ c ∧ c ≤ 1071) then encB (c + 32)
      else spcB
def wordsF : List Nat → ByteArray → List ByteArray
  | [], w => if w.size = 0 then [] else [w]
  | c :: r, w => if foldC c = spcB then (if w.size = 0 then wordsF r ⟨#[]⟩ else w :: wordsF r ⟨#[]⟩) else wordsF r (w ++ foldC c)
def wordsP (s : ByteArray) : List ByteArray := wordsF (runes s) ⟨#[]⟩
def joinS : List ByteArray → ByteArray
  | [] => ⟨#[]⟩
  | [a] => a
  | a :: b :: l => a ++ spcB ++ joinS (b :: l)
def foldS (s : ByteArray) : ByteArray := joinS (wordsP s)
theorem decode_pos (s : ByteArray) (i : Nat) : 1 ≤ (Utf8.decode s i).2 := by
  simp only [Utf8.decode]
  repeat' split
  all_goals simp
theorem runesF_fuel (s : ByteArray) : ∀ (n m i : Nat), s.size - i ≤ n → s.size - i ≤ m → runesF s n i = runesF s m i
  | 0, 0, i, _, _ => rfl
  | 0, m + 1, i, h, _ => by rw [runesF, runesF, if_neg (by omega)]
  | n + 1, 0, i, _, h => by rw [runesF, runesF, if_neg (by omega)]
  | n + 1, m + 1, i, h1, h2 => by
    rw [runesF, runesF]
    by_cases hi : i < s.size
    · rw [if_pos hi, if_pos hi]
      have := decode_pos s i
      rw [runesF_fuel s n m _ (by omega) (by omega)]
    · rw [if_neg hi, if_neg hi]
theorem runesAt_end {s : ByteArray} {i : Nat} (h : ¬i < s.size) : runesAt s i = [] := by
  unfold runesAt
  rw [show s.size - i = 0 by omega]; rfl
theorem runesAt_step {s : ByteArray} {i : Nat} (h : i < s.size) : runesAt s i = (Utf8.decode s i).1 :: runesAt s (i + (Utf8.decode s i).2) := by
  have := decode_pos s i
  unfold runesAt
  rw [runesF_fuel s (s.size - i) ((s.size - i - 1) + 1) i (by omega) (by omega), runesF, if_pos h, runesF_fuel s (s.size - i - 1) (s.size - (i + (Utf8.decode s i).2)) _ (by omega) (by omega)]
theorem runes_len (s : ByteArray) : ∀ (n i : Nat), s.size - i ≤ n → (runesAt s i).length ≤ n
  | 0, i, h => by rw [runesAt_end (by omega)]; exact Nat.le_refl _
  | n + 1, i, h => by
    by_cases hi : i < s.size
    · have := decode_pos s i
      rw [runesAt_step hi, List.length_cons]
      have := runes_len s n (i + (Utf8.decode s i).2) (by omega)
      omega
    · rw [runesAt_end hi]; simp
theorem runesFrom_eq (s : ByteArray) : ∀ (n i : Nat) (acc : Array Value), Conv.runesFrom s n i acc = acc ++ ((runesF s n i).map fun c => Value.int .i32 (c : Nat)).toArray
  | 0, i, acc => by simp [Conv.runesFrom, runesF]
  | n + 1, i, acc => by
    rw [Conv.runesFrom, runesF]
    split
    · simp only
      rw [runesFrom_eq s n]
      simp
    · simp
noncomputable def tabM (l : List (Nat × ByteArray)) : Value → Option Value := l.foldl (fun f p => fupd f (.int .i32 (p.1 : Nat)) (.string p.2)) (fun _ => none)
theorem tabM_snoc (l : List (Nat × ByteArray)) (c : Nat) (s : ByteArray) : tabM (l ++ [(c, s)]) = fupd (tabM l) (.int .i32 (c : Nat)) (.string s) := by
  unfold tabM
  rw [List.foldl_append]; rfl
theorem tabM_at {l : List (Nat × ByteArray)} (h : (l.map (·.1)).Nodup) (c : Nat) : tabM l (.int .i32 (c : Nat)) = ((l.find? (fun p => p.1 == c)).map (·.2)).map .string := by
  have key : ∀ (l : List (Nat × ByteArray)) (f : Value → Option Value), (l.map (·.1)).Nodup → (l.foldl (fun f p => fupd f (.int .i32 (p.1 : Nat)) (.string p.2)) f) (.int .i32 (c : Nat)) = match l.find? (fun p => p.1 == c) with | some p => some (.string p.2) | none => f (.int .i32 (c : Nat)) := by
    intro l
    induction l with
    | nil => intro f _; rfl
    | cons p l ih =>
      intro f hn
      rw [List.map_cons, List.nodup_cons] at hn
      rw [List.foldl_cons, ih _ hn.2, List.find?_cons]
      by_cases hp : p.1 = c
      · have h0 : l.find? (fun q => q.1 == c) = none := by
          rw [List.find?_eq_none]
          intro q hq he
          have he : q.1 = c := by simpa using he
          exact hn.1 (by rw [hp, ← he]; exact List.mem_map_of_mem hq)
        rw [h0]
        simp only [hp, beq_self_eq_true]
        exact fupd_self
      · have hb : (p.1 == c) = false := by simpa using hp
        rw [hb]
        dsimp only
        cases l.find? (fun p => p.1 == c) with
        | some q => rfl
        | none =>
          refine fupd_ne (fun e => hp ?_)
          injection e with _ e
          omega
  unfold tabM
  rw [key l _ h]
  cases l.find? (fun p => p.1 == c) <;> rfl
theorem tabR_nodup : (tabR.map (·.1)).Nodup := by decide +kernel
theorem tab_look (c : Nat) : tabM tabR (.int .i32 (c : Nat)) = (lookR c).map .string := tabM_at tabR_nodup c
theorem lookR_short {c : Nat} {s : ByteArray} (h : lookR c = some s) : 1 ≤ s.size ∧ s.size ≤ 2 ∧ s ≠ spcB := by
  have key : ∀ p ∈ tabR, 1 ≤ p.2.size ∧ p.2.size ≤ 2 ∧ p.2 ≠ spcB := by decide +kernel
  unfold lookR at h
  cases hq : tabR.find? (fun p => p.1 == c) with
  | none => rw [hq] at h; cases h
  | some p => rw [hq] at h; injection h with h; subst h; exact key p (List.mem_of_find?_eq_some hq)
end Go.PK

namespace Go.PK
open Go Go.RowKit Go.Maps
theorem encB_one {c : Nat} (h : c < 128) : (encB c).size = 1 := by
  unfold encB Utf8.encode
  have hv : Utf8.valid (c : Int) = true := by rw [validRune_eq]; unfold validRune; simp; omega
  simp only [hv, if_true]
  rw [if_pos (by omega)]; rfl
theorem encB_two {c : Nat} (h : c < 2048) : (encB c).size ≤ 2 := by
  by_cases h1 : c < 128
  · rw [encB_one h1]; omega
  unfold encB Utf8.encode
  have hv : Utf8.valid (c : Int) = true := by rw [validRune_eq]; unfold validRune; simp; omega
  simp only [hv, if_true]
  rw [if_neg (by omega), if_pos (by omega)]; exact Nat.le_refl 2
theorem foldC_le (c : Nat) : (foldC c).size ≤ 2 := by
  unfold foldC
  split
  · exact encB_two (by omega)
  split
  · exact encB_two (by omega)
  split
  · exact Nat.le_succ 1
  split
  · exact Nat.zero_le 2
  split
  · rename_i s hs; exact (lookR_short hs).2.1
  split
  · exact encB_two (by omega)
  split
  · exact encB_two (by omega)
  split
  · exact encB_two (by omega)
  · exact Nat.le_succ 1
theorem foldC_one {c : Nat} (h : c < 128) : (foldC c).size ≤ 1 := by
  unfold foldC
  split
  · rw [encB_one h]; exact Nat.le_refl 1
  split
  · rw [encB_one (by omega)]; exact Nat.le_refl 1
  exact Nat.le_refl 1
theorem foldC_err : (foldC 65533).size ≤ 1 := by decide +kernel
theorem decode_w (s : ByteArray) (i : Nat) : (Utf8.decode s i).1 < 128 ∨ (Utf8.decode s i).1 = 65533 ∨ 2 ≤ (Utf8.decode s i).2 := by
  simp only [Utf8.decode, Utf8.runeError]
  repeat' split
  all_goals simp
  exact .inl ‹_›
theorem foldC_w (s : ByteArray) (i : Nat) : (foldC (Utf8.decode s i).1).size ≤ (Utf8.decode s i).2 := by
  have := decode_pos s i
  rcases decode_w s i with h | h | h
  · exact Nat.le_trans (foldC_one h) this
  · rw [h]; exact Nat.le_trans foldC_err this
  · exact Nat.le_trans (foldC_le _) h
def wgt (r : List Nat) : Nat := (r.map fun c => (foldC c).size).sum
theorem wgt_cons (c : Nat) (r : List Nat) : wgt (c :: r) = (foldC c).size + wgt r := rfl
theorem decode_end (s : ByteArray) {i : Nat} (h : i < s.size) : i + (Utf8.decode s i).2 ≤ s.size := by
  simp only [Utf8.decode]
  repeat' split
  all_goals simp_all
  all_goals omega
theorem wgt_at (s : ByteArray) : ∀ (n i : Nat), s.size - i ≤ n → i ≤ s.size → wgt (runesAt s i) + i ≤ s.size
  | 0, i, h, hi => by rw [runesAt_end (by omega)]; show 0 + i ≤ _; omega
  | n + 1, i, h, hi => by
    by_cases hlt : i < s.size
    · have h1 := decode_pos s i
      have h2 := foldC_w s i
      have h3 := decode_end s hlt
      have h4 := wgt_at s n (i + (Utf8.decode s i).2) (by omega) h3
      rw [runesAt_step hlt, wgt_cons]
      omega
    · rw [runesAt_end hlt]; show 0 + i ≤ _; omega
theorem wgt_runes (s : ByteArray) : wgt (runes s) ≤ s.size := by
  have := wgt_at s s.size 0 (by omega) (Nat.zero_le _)
  exact this
theorem joinS_cons (a : ByteArray) (l : List ByteArray) : (joinS (a :: l)).size ≤ a.size + 1 + (joinS l).size := by
  cases l with
  | nil => show a.size ≤ _; omega
  | cons b l =>
    show (a ++ spcB ++ joinS (b :: l)).size ≤ _
    rw [ByteArray.size_append, ByteArray.size_append]; exact Nat.le_refl _
theorem joinS_words : ∀ (r : List Nat) (w : ByteArray), (joinS (wordsF r w)).size ≤ w.size + wgt r
  | [], w => by
    unfold wordsF
    split
    · exact Nat.zero_le _
    · exact Nat.le_refl _
  | c :: r, w => by
    unfold wordsF
    rw [wgt_cons]
    split
    · rename_i hc
      have h1 : (foldC c).size = 1 := by rw [hc]; rfl
      split
      · have := joinS_words r ⟨#[]⟩
        have h0 : (⟨#[]⟩ : ByteArray).size = 0 := rfl
        omega
      · have h2 := joinS_cons w (wordsF r ⟨#[]⟩)
        have := joinS_words r ⟨#[]⟩
        have h0 : (⟨#[]⟩ : ByteArray).size = 0 := rfl
        omega
    · have := joinS_words r (w ++ foldC c)
      rw [ByteArray.size_append] at this
      omega
theorem words_len : ∀ (r : List Nat) (w : ByteArray), (wordsF r w).length ≤ r.length + 1
  | [], w => by unfold wordsF; split <;> simp
  | c :: r, w => by
    unfold wordsF
    split
    · split
      · have := words_len r ⟨#[]⟩; simp; omega
      · have := words_len r ⟨#[]⟩; simp; omega
    · have := words_len r (w ++ foldC c); simp; omega
theorem foldS_size (s : ByteArray) : (foldS s).size ≤ s.size := by
  have h1 := joinS_words (runes s) ⟨#[]⟩
  have h2 := wgt_runes s
  have h0 : (⟨#[]⟩ : ByteArray).size = 0 := rfl
  unfold foldS wordsP
  omega
theorem wordsP_len (s : ByteArray) : (wordsP s).length ≤ s.size + 1 := by
  have h1 := words_len (runes s) ⟨#[]⟩
  have h2 := runes_len s s.size 0 (by omega)
  unfold wordsP
  show _ ≤ _
  unfold runes at *
  omega
end Go.PK

namespace Go.PK
open Go Go.RowKit
def byC (bs : List UInt8) : List Value := bs.map fun c => .int .u8 c.toNat
theorem byC_len (bs : List UInt8) : (byC bs).length = bs.length := by simp [byC]
theorem byC_at {bs : List UInt8} {j : Nat} (h : j < bs.length) : (byC bs)[j]? = some (.int .u8 bs[j].toNat) := by simp [byC, h]
section
variable {P : Program} {n : Nat} {l : List (Nat × Value)} {own : List (Nat × Obj)} {ro : List Snap} {lops : List Oper} {Q : Exit → Act → World → Prop} {K : Act → World → Prop}
  {rest : List (Option Bool × Nat)} {k : Option Bool} {i d : Nat} {ty t t' : TypeId} {pos : String} {af : Array Edge} {x y : Operand} {b off : Nat}
end
end Go.PK

namespace Go.PK
open Go Go.RowKit
structure BS where
  pp : Value
  v : Value
  o : List (Nat × Obj)
def bld (T : TypeId) (b : Nat) (x : BS) : List (Nat × Obj) := (b, .cells #[x.pp, x.v] T (0, 0)) :: x.o
structure BOK (e : TypeId) (B b : Nat) (l : List UInt8) (x : BS) : Prop where
  le : B ≤ b
  pp : x.pp = .pointer none ∨ x.pp = .pointer (some ⟨b, 0, none⟩)
  row : (x.v = .slice none 0 0 ∧ l = [] ∧ x.o = []) ∨ ∃ g cap cur fz, x.v = .slice (some ⟨g, 0, none⟩) l.length cap ∧ x.o = [(g, .cells cur e fz)] ∧ B ≤ g ∧ fz.2 ≤ l.length ∧ l.length ≤ cap ∧ cap ≤ maxLen ∧ cur.size = cap ∧ cur.toList.take l.length = byC l
theorem BOK.new {e : TypeId} {B b : Nat} (h : B ≤ b) : BOK e B b [] ⟨.pointer none, .slice none 0 0, []⟩ := ⟨h, .inl rfl, .inl ⟨rfl, rfl, rfl⟩⟩
section
variable {T e : TypeId} {B b : Nat} {l : List UInt8} {x : BS} {w w' : World} {l2 : List (Nat × Obj)} {ro : List Snap}
theorem BOK.is (h : BOK e B b l x) (hm : Mem w (bld T b x ++ l2) ro) : Lib.IsBuilderF T e B b (byC l) w := by
  have hb : w.heap[b]? = some (.cells #[x.pp, x.v] T (0, 0)) := hm.own_at (b, _) (by simp [bld])
  have key : w.ownsRowF B e 1 x.v (byC l).length (byC l) ∧ x.v.ownBlock ≠ some b := by
    rw [byC_len]
    rcases h.row with ⟨h1, rfl, h3⟩ | ⟨g, cap, cur, fz, h1, h3, h4, h5, h6, h7, h8, h9⟩
    · rw [h1]; exact ⟨World.ownsRowF_nil .., by simp [Value.ownBlock]⟩
    · have hg : w.heap[g]? = some (.cells cur e fz) := hm.own_at (g, _) (by simp [bld, h3])
      refine ⟨⟨by rw [byC_len, Nat.mul_one], .inr ⟨g, cap, cur, fz, h1, h4, hg, by omega, h6, h7, by omega, by rw [Nat.mul_one]; exact h9⟩⟩, ?_⟩
      rw [h1]
      simp only [Value.ownBlock]
      intro he
      have hnd := hm.own_nd
      simp only [bld, h3, List.cons_append, List.nil_append, List.map_cons, List.nodup_cons] at hnd
      exact hnd.1 (by simp at he; simp [he])
  rcases h.pp with hp | hp
  · exact .inl ⟨h.le, x.v, by rw [← hp]; exact hb, key⟩
  · exact .inr ⟨h.le, x.v, by rw [← hp]; exact hb, key⟩
theorem BOK.step {p : Value} {l' : List UInt8} (hp : p = .pointer none ∨ p = .pointer (some ⟨b, 0, none⟩)) (hm : Mem w (bld T b x ++ l2) ro) (hB : ∀ s ∈ ro, s.1.heap.size ≤ B) (h2 : ∀ q ∈ l2, q.1 < B)
    (hA : Lib.BuilderAtF T e B b p (byC l') w') (hl : Below B w w') : ∃ x', BOK e B b l' x' ∧ Mem w' (bld T b x' ++ l2) ro := by
  obtain ⟨hb1, v, hb, ho, hne⟩ := hA
  have rest : ∀ o : List (Nat × Obj), (∀ q ∈ o, w'.heap[q.1]? = some q.2) → (o.map (·.1)).Nodup → (∀ q ∈ o, B ≤ q.1 ∧ q.1 ≠ b) → Mem w' (bld T b ⟨p, v, o⟩ ++ l2) ro := fun o h1 h3 h4 => by
    have hl2 : ∀ q ∈ l2, q ∈ bld T b x ++ l2 := fun q hq => List.mem_append_right _ hq
    refine ⟨fun q hq => ?_, ?_, fun s hs => ?_, fun s hs k hk hlt => ?_, fun q hq s hs hd => ?_⟩
    · simp only [bld, List.cons_append, List.mem_cons, List.mem_append] at hq
      rcases hq with rfl | hq | hq
      · exact hb
      · exact h1 q hq
      · exact (hl.block q.1 (h2 q hq)).trans (hm.own_at q (hl2 q hq))
    · have hnd2 : (l2.map (·.1)).Nodup := by
        have := hm.own_nd
        rw [List.map_append, List.nodup_append] at this
        exact this.2.1
      simp only [bld, List.cons_append, List.map_cons, List.map_append, List.nodup_cons, List.nodup_append, List.mem_append]
      refine ⟨fun hx => ?_, h3, hnd2, fun a ha c hc => ?_⟩
      · rcases hx with hx | hx
        · obtain ⟨q, hq, he⟩ := List.mem_map.1 hx
          exact (h4 q hq).2 he
        · obtain ⟨q, hq, he⟩ := List.mem_map.1 hx
          have := h2 q hq; omega
      · obtain ⟨q, hq, rfl⟩ := List.mem_map.1 ha
        obtain ⟨q2, hq2, rfl⟩ := List.mem_map.1 hc
        have := (h4 q hq).1; have := h2 q2 hq2; omega
    · obtain ⟨a, c, d, f⟩ := hm.ro_st s hs
      exact ⟨hl.os.trans a, hl.tape.trans c, hl.output.trans d, Nat.le_trans f hl.size⟩
    · exact (hl.block k (Nat.lt_of_lt_of_le hlt (hB s hs))).trans (hm.ro_at s hs k hk hlt)
    · simp only [bld, List.cons_append, List.mem_cons, List.mem_append] at hq
      rcases hq with rfl | hq | hq
      · exact Nat.le_trans (hB s hs) hb1
      · exact Nat.le_trans (hB s hs) (h4 q hq).1
      · exact hm.apart q (hl2 q hq) s hs hd
  rw [byC_len] at ho
  rcases ho.2 with ⟨rfl, hn⟩ | ⟨g, cap, cur, fz, rfl, hg1, hg, hfz, hnc, hcm, hcs, htk⟩
  · exact ⟨⟨p, .slice none 0 0, []⟩, ⟨hb1, hp, .inl ⟨rfl, List.eq_nil_of_length_eq_zero hn, rfl⟩⟩, rest [] (by simp) (by simp) (by simp)⟩
  · refine ⟨⟨p, .slice (some ⟨g, 0, none⟩) l'.length cap, [(g, .cells cur e fz)]⟩, ⟨hb1, hp, .inr ⟨g, cap, cur, fz, rfl, rfl, hg1, by omega, hnc, hcm, by omega, by rw [Nat.mul_one] at htk; exact htk⟩⟩, rest _ (fun q hq => by rw [List.mem_singleton.1 hq]; exact hg) (by simp) (fun q hq => ?_)⟩
    rw [List.mem_singleton.1 hq]
    exact ⟨hg1, fun he => hne (congrArg some he)⟩
end
theorem byC_app (a b : List UInt8) : byC (a ++ b) = byC a ++ byC b := by simp [byC]
end Go.PK

namespace Go.PK
open Go Go.RowKit
section
variable {P : Program} {n : Nat} {l : List (Nat × Value)} {own : List (Nat × Obj)} {ro : List Snap} {ty : TypeId} {x y : Operand} {t t' : TypeId} {b : Nat}
theorem own_shape {w : World} {cs : Array Value} {e : TypeId} {fz : Nat × Nat} (hw : Mem w own ro) (hb : (b, Obj.cells cs e fz) ∈ own) : w.shape? b = some (e, cs.size) := by
  have hg : w.heap[b]? = some (.cells cs e fz) := hw.own_at _ hb
  simp [World.shape?, hg]
theorem v_toUns {T e : TypeId} {m : Nat} {cs : Array Value} {fz : Nat × Nat} {off : Nat} (hs : P.underlying t = some (.pointer T)) (hd : P.underlying t' = some .unsafePointer) (ht : (P.info? T).map (·.size) = some (m + 1)) (hx : ev l x = some (.pointer (some ⟨b, off, none⟩))) (hb : (b, Obj.cells cs e fz) ∈ own) (ho : off < cs.size) :
    OpV P n l own ro (.convert t t' x) ty (.pointer (some ⟨b, off, none⟩)) := by
  intro A w o ha hw hop _
  obtain ⟨j, hj, hjs⟩ := Option.map_eq_some_iff.1 ht
  have := Lib.run_to_unsafe (P := P) (w := w) (src := t) (dst := t') ⟨b, off, none⟩ hs hd hj (by rw [hjs]; omega) (own_shape hw hb) ho
  simp [execOp, hop, ha.eval hx, this]
theorem v_fromUns {T e : TypeId} {cs : Array Value} {fz : Nat × Nat} {off : Nat} (hs : P.underlying t = some .unsafePointer) (hd : P.underlying t' = some (.pointer T)) (ht : ∃ j, P.info? T = some j) (hx : ev l x = some (.pointer (some ⟨b, off, none⟩))) (hb : (b, Obj.cells cs e fz) ∈ own)
    (hl : liesAt P P.depth e (cs.size / P.cellsOf e) off T 1 = true) : OpV P n l own ro (.convert t t' x) ty (.pointer (some ⟨b, off, none⟩)) := by
  intro A w o ha hw hop _
  obtain ⟨j, hj⟩ := ht
  have := Lib.run_from_unsafe (P := P) (w := w) (src := t) (dst := t') ⟨b, off, none⟩ hs hd hj (own_shape hw hb) hl
  simp [execOp, hop, ha.eval hx, this]
theorem v_noEsc {f : FuncId} {fn : Func} {v : Value} {tys : Array TypeId} (hf : P.funcs[f]? = some fn) (hname : (fn.name == "runtime.NumGoroutine") = false) (hb : fn.body.isNone = true) (hn : Extern.findNext fn = none) (he : Extern.find fn = some Extern.AbiNoEscape.same) (hx : ev l x = some v) :
    OpV P n l own ro (.call ⟨.value (.func f), #[x], tys⟩) ty v := by
  intro A w o ha _ hop _
  have h1 := run_callFunc_extern hf hname hb hn he #[v] w
  rw [Lib.run_noEscape] at h1
  have hf2 : A.eval (.func f) = .func (.func f) #[] #[] := rfl
  simp [execOp, hop, resolve, invoke, ha.eval hx, hf2, Deferred.ofValue, h1]
theorem v_pnil {T : TypeId} {o : Option Addr} (ht : P.underlying t = some (.pointer T)) (hx : ev l x = some (.pointer o)) (hy : ev l y = some (.pointer none)) : OpV P n l own ro (.binOp .eql t x y t') ty (.bool o.isNone) := by
  intro A w q ha _ hq _
  have h : ∀ d : Nat, (Op.equalIn (d + 1) t (.pointer o) (.pointer none)).run P w = .ok o.isNone w := fun d => by
    cases o <;> simp [Op.equalIn, run_underlying ht]
  have h2 : (Op.equal t (.pointer o) (.pointer none)).run P w = .ok o.isNone w := h 9999
  simp [execOp, hq, ha.eval hx, ha.eval hy, eqGuard, binOp, h2]
theorem v_pne {T : TypeId} {a : Addr} {j : TypeInfo} (ht : P.underlying t = some (.pointer T)) (hj : P.info? T = some j) (hx : ev l x = some (.pointer (some a))) (hy : ev l y = some (.pointer (some a))) : OpV P n l own ro (.binOp .neq t x y t') ty (.bool false) := by
  intro A w q ha _ hq _
  have h2 := Lib.run_neq_ptr_same (P := P) (w := w) a ht hj
  simp [execOp, hq, ha.eval hx, ha.eval hy, eqGuard, h2]
end
def bld2 (T e : TypeId) (b : Nat) (pp : Value) (r : RowS) (k : Nat) : List (Nat × Obj) := (b, .cells #[pp, rowV r k] T (0, 0)) :: rowO e r
def ppOK (b : Nat) (pp : Value) : Prop := pp = .pointer none ∨ pp = .pointer (some ⟨b, 0, none⟩)
theorem Mem.after {w w' : World} {B : Nat} {l1 l2 : List (Nat × Obj)} {ro : List Snap} (hm : Mem w (l1 ++ l2) ro) (hB : ∀ s ∈ ro, s.1.heap.size ≤ B) (h2 : ∀ q ∈ l2, q.1 < B) (hl : Below B w w') : Mem w' l2 ro := by
  have hl2 : ∀ q ∈ l2, q ∈ l1 ++ l2 := fun q hq => List.mem_append_right _ hq
  refine ⟨fun q hq => (hl.block q.1 (h2 q hq)).trans (hm.own_at q (hl2 q hq)), ?_, fun s hs => ?_, fun s hs k hk hlt => (hl.block k (Nat.lt_of_lt_of_le hlt (hB s hs))).trans (hm.ro_at s hs k hk hlt), fun q hq s hs hd => hm.apart q (hl2 q hq) s hs hd⟩
  · have := hm.own_nd
    rw [List.map_append, List.nodup_append] at this
    exact this.2.1
  · obtain ⟨a, c, d, f⟩ := hm.ro_st s hs
    exact ⟨hl.os.trans a, hl.tape.trans c, hl.output.trans d, Nat.le_trans f hl.size⟩
end Go.PK

namespace Go.PK
open Go Go.RowKit
structure Sg where
  c : UInt8
  e : UInt8
  r : UInt8
  n : UInt8
deriving DecidableEq
def Sg.cells (g : Sg) : List Value := [.int .u8 g.c.toNat, .int .u8 g.e.toNat, .int .u8 g.r.toNat, .int .u8 g.n.toNat]
structure Seg where
  tag : ByteArray
  els : List (List ByteArray)
deriving DecidableEq
end Go.PK

namespace Go.PK
open Go Go.RowKit
theorem row1_T {α : Type} {T : Ty α} {D : Nat → Prop} {ws : World} {r : RowS} {xs : List α} {n : Nat} (f : α → Value) (hs : T.size = 1) (hr : rowOK 1 r n (xs.map f)) (hn : n = xs.length) (hT : ∀ x ∈ xs, T.rd D ws [f x] x) : RowT T D ws r xs := by
  subst hn
  refine ⟨xs.map fun x => [f x], by simp, ?_, fun j h1 h2 => ?_⟩
  · have e : (xs.map fun x => [f x]).flatten = xs.map f := by
      clear hr hT
      induction xs with
      | nil => rfl
      | cons x xs ih => simp [ih]
    rw [e, hs]; exact hr
  · rw [List.getElem_map]; exact hT _ (List.getElem_mem h2)
theorem row1_rd {α : Type} {T : Ty α} {D : Nat → Prop} {w : World} {own : List (Nat × Obj)} {ro : List Snap} {e : TypeId} {r : RowS} {xs : List α} {n : Nat} (f : α → Value) (hs : T.size = 1) (hr : rowOK 1 r n (xs.map f)) (hn : n = xs.length) (hT : ∀ D' ws, ∀ x ∈ xs, T.rd D' ws [f x] x)
    (hm : Mem w own ro) (hin : ∀ p ∈ rowO e r, p ∈ own) (hD : ∀ p ∈ rowO e r, D p.1) : sliceRd T D w (rowV r n) xs :=
  (row1_T (D := fun _ => False) (ws := w) f hs hr hn (hT _ _)).rd hm hin (fun _ h => h.elim) hD hn
end Go.PK

namespace Go.PK
open Go Go.RowKit
def ssC (xs : List (List ByteArray)) (Ss : List RowS) : List Value := List.zipWith (fun x S => rowV S x.length) xs Ss
structure SSOK (R : RowS) (Ss : List RowS) (xs : List (List ByteArray)) : Prop where
  len : Ss.length = xs.length
  row : rowOK 1 R xs.length (ssC xs Ss)
  sub : ∀ j (h1 : j < Ss.length) (h2 : j < xs.length), rowOK 1 Ss[j] xs[j].length (xs[j].map Value.string)
def inO (e : TypeId) (Ss : List RowS) : List (Nat × Obj) := Ss.reverse.flatMap (rowO e)
theorem SSOK.nil : SSOK none [] [] := ⟨rfl, rowOK_nil, fun j h => by simp at h⟩
theorem ssC_snoc {xs : List (List ByteArray)} {Ss : List RowS} (h : Ss.length = xs.length) (x : List ByteArray) (S : RowS) : ssC (xs ++ [x]) (Ss ++ [S]) = ssC xs Ss ++ [rowV S x.length] := by
  unfold ssC; rw [List.zipWith_append h.symm]; rfl
theorem ssC_len {xs : List (List ByteArray)} {Ss : List RowS} (h : Ss.length = xs.length) : (ssC xs Ss).length = xs.length := by unfold ssC; rw [List.length_zipWith, h, Nat.min_self]
theorem SSOK.snoc {R R' S : RowS} {Ss : List RowS} {xs : List (List ByteArray)} {x : List ByteArray} (h : SSOK R Ss xs) (hr : rowOK 1 R' (xs.length + 1) (ssC xs Ss ++ [rowV S x.length])) (hs : rowOK 1 S x.length (x.map Value.string)) : SSOK R' (Ss ++ [S]) (xs ++ [x]) where
  len := by simp [h.len]
  row := by rw [ssC_snoc h.len]; simpa using hr
  sub := fun j h1 h2 => by
    by_cases hj : j < Ss.length
    · have hj2 : j < xs.length := by rw [← h.len]; exact hj
      rw [List.getElem_append_left hj]
      simp only [List.getElem_append_left hj2]
      exact h.sub j hj hj2
    · have hj2 : j = xs.length := by have := h.len; simp at h1 h2; omega
      subst hj2
      rw [List.getElem_append_right (by omega)]
      simp only [List.getElem_append_right (Nat.le_refl _)]
      simpa [h.len] using hs
theorem SSOK.last {R : RowS} {Ss : List RowS} {xs : List (List ByteArray)} (h : SSOK R Ss xs) (hne : xs ≠ []) : ∃ ys y Ts S b cs c, xs = ys ++ [y] ∧ Ss = Ts ++ [S] ∧ R = some (b, cs, c) := by
  have hx := (List.dropLast_concat_getLast hne).symm
  have hne2 : Ss ≠ [] := fun e => by have := h.len; rw [e] at this; exact hne (List.eq_nil_of_length_eq_zero this.symm)
  have hS := (List.dropLast_concat_getLast hne2).symm
  cases hR : R with
  | none => have h1 := h.row; rw [hR] at h1; exact absurd (List.eq_nil_of_length_eq_zero h1.2) hne
  | some z => obtain ⟨b, cs, c⟩ := z; exact ⟨_, _, _, _, b, cs, c, hx, hS, rfl⟩
section
variable {R : RowS} {b c : Nat} {cs : List Value} {Ts : List RowS} {S S' : RowS} {ys : List (List ByteArray)} {y y' : List ByteArray}
theorem SSOK.tl (h : SSOK R (Ts ++ [S]) (ys ++ [y])) : Ts.length = ys.length := by have := h.len; simpa using this
end
theorem mem_inO {e : TypeId} {Ss : List RowS} {j : Nat} (h : j < Ss.length) : ∀ p ∈ rowO e Ss[j], p ∈ inO e Ss := fun p hp => by
  unfold inO
  exact List.mem_flatMap.2 ⟨Ss[j], by simp, hp⟩
theorem rowS_rd {D : Nat → Prop} {w : World} {own : List (Nat × Obj)} {ro : List Snap} {e : TypeId} {r : RowS} {xs : List ByteArray} {n : Nat} (hr : rowOK 1 r n (xs.map Value.string)) (hn : n = xs.length) (hok : ∀ s ∈ xs, okS s)
    (hm : Mem w own ro) (hin : ∀ p ∈ rowO e r, p ∈ own) (hD : ∀ p ∈ rowO e r, D p.1) : sliceRd tyStr D w (rowV r n) xs :=
  row1_rd Value.string rfl hr hn (fun D' ws x hx => ⟨rfl, hok x hx⟩) hm hin hD
theorem SSOK.rd {R : RowS} {Ss : List RowS} {xs : List (List ByteArray)} {D : Nat → Prop} {w : World} {own : List (Nat × Obj)} {ro : List Snap} {eR eS : TypeId} {n : Nat} (h : SSOK R Ss xs) (hn : n = xs.length) (hok : ∀ x ∈ xs, ∀ s ∈ x, okS s)
    (hm : Mem w own ro) (hR : ∀ p ∈ rowO eR R, p ∈ own) (hS : ∀ p ∈ inO eS Ss, p ∈ own) (hD : ∀ p ∈ rowO eR R, D p.1) (hD2 : ∀ p ∈ inO eS Ss, D p.1) : sliceRd (tySlice tyStr) D w (rowV R n) xs := by
  have hT : RowT (tySlice tyStr) D w R xs := by
    refine ⟨(ssC xs Ss).map fun v => [v], by rw [List.length_map, ssC_len h.len], ?_, fun j h1 h2 => ?_⟩
    · have e : ((ssC xs Ss).map fun v => [v]).flatten = ssC xs Ss := by
        generalize ssC xs Ss = l
        induction l with
        | nil => rfl
        | cons a l ih => simp [ih]
      rw [e]; exact h.row
    · rw [List.getElem_map]
      have hjS : j < Ss.length := by rw [h.len]; exact h2
      have hv : (ssC xs Ss)[j]'(by rw [ssC_len h.len]; exact h2) = rowV Ss[j] xs[j].length := by unfold ssC; rw [List.getElem_zipWith]
      rw [hv]
      exact ⟨_, rfl, rowS_rd (e := eS) (h.sub j hjS h2) rfl (hok _ (List.getElem_mem h2)) hm (fun p hp => hS p (mem_inO hjS p hp)) (fun p hp => hD2 p (mem_inO hjS p hp))⟩
  exact hT.rd hm hR (fun _ h => h) hD hn
end Go.PK

namespace Go.PK
open Go Go.RowKit
theorem Mem.join {w1 w2 : World} {own1 own2 : List (Nat × Obj)} {ro : List Snap} (h1 : Mem w1 own1 ro) (h2 : Mem w2 own2 [(w1, fun _ => True)]) : Mem w2 own2 ro where
  own_at := h2.own_at
  own_nd := h2.own_nd
  ro_st := fun s hs => by
    obtain ⟨a, b, c, d⟩ := h1.ro_st s hs
    obtain ⟨a', b', c', d'⟩ := h2.ro_st _ (.head _)
    exact ⟨a'.trans a, b'.trans b, c'.trans c, Nat.le_trans d d'⟩
  ro_at := fun s hs k hk hlt => (h2.ro_at _ (.head _) k trivial (Nat.lt_of_lt_of_le hlt (h1.ro_st s hs).2.2.2)).trans (h1.ro_at s hs k hk hlt)
  apart := fun q hq s hs hd => Nat.le_trans (h1.ro_st s hs).2.2.2 (h2.apart q hq _ (.head _) trivial)
end Go.PK

namespace Go.PK
open Go Go.RowKit
end Go.PK

namespace Go.PK
open Go Go.RowKit
theorem append_str_block {P : Program} {w w' : World} (t u ty e : TypeId) (i : TypeInfo) (ht : P.underlying t = some (.slice e)) (hu : P.underlying u = some .string) (hi : P.info? e = some i) (hz : i.zero = some (.int .u8 0)) (hsize : i.size = 1) (hby : i.bytes = 1)
    (v v' : Value) (n : Nat) (xs : List Value) (hown : w.ownsRow 0 e 1 v n xs) (s : ByteArray) (h63 : n + s.size ≤ maxLen) (hbytes : n + s.size ≤ 140737488355328)
    (hr : (Builtin.append_ #[t, u] ty #[v, .string s]).run P w = .ok v' w') (h4 : v' = .slice none 0 0 ↔ v = .slice none 0 0 ∧ s.size = 0) : v'.ownBlock = v.ownBlock ∨ v'.ownBlock = some w.heap.size := by
  have hxl : xs.length = n := by simpa using hown.1
  simp only [maxLen] at h63
  rcases hown.2 with ⟨rfl, rfl⟩ | ⟨g, cap, cur, rfl, _, hg, hnc, hcm, hcs, htake⟩
  · by_cases hm : s.size = 0
    · exact .inl (by rw [h4.2 ⟨rfl, hm⟩])
    · have h2 := run_append_nil_string (P := P) w t u ty e i (.int .u8 0) ht hu hi hz s (by omega) (by omega) (by rw [hby]; omega)
      rw [h2] at hr
      injection hr with h5 h6
      exact .inr (by rw [← h5]; rfl)
  · by_cases hroom : n + s.size ≤ cap
    · have h2 := Lib.run_append_room_string (P := P) w t u ty e i ht hu hi hsize g n cap cur hg s hroom (by omega)
      rw [h2] at hr
      injection hr with h5 h6
      exact .inl (by rw [← h5]; rfl)
    · have holds : ∀ j u, xs[j]? = some u → w.cell? ((⟨g, 0, none⟩ : Addr).add j) = some u := World.ownsRow.cells hown (g := g) rfl
      have h2 := Lib.run_append_grow_string (P := P) w t u ty e i (.int .u8 0) ht hu hi hz ⟨g, 0, none⟩ n cap xs (by rw [hsize]; simpa using hxl) holds s (by omega) (by omega) (by rw [hby]; exact growslice_fits (by omega) (by omega))
      rw [h2] at hr
      injection hr with h5 h6
      exact .inr (by rw [← h5]; rfl)
section
variable {P : Program} {b off : Nat} {t' : TypeId} {n : Nat} {l : List (Nat × Value)} {own : List (Nat × Obj)} {ro : List Snap} {lops : List Oper} {Q : Exit → Act → World → Prop} {K : Act → World → Prop}
  {rest : List (Option Bool × Nat)} {k : Option Bool} {i d : Nat} {ty t u : TypeId} {pos : String} {af : Array Edge} {x y : Operand}
theorem x_append_str {e : TypeId} {len : Nat} {xs : List Value} {s : ByteArray} (l1 : List (Nat × Obj)) {l2 : List (Nat × Obj)} (r : RowS) (ho : lops[i]? = some ⟨some d, .call ⟨.builtin .append, #[x, y], #[t, u]⟩, ty, pos, af, none⟩) (hd : decide (d < n) = true)
    (hx : ev l x = some (rowV r len)) (hy : ev l y = some (.string s)) (hown : own = l1 ++ rowO e r ++ l2) (hr : rowOK 1 r len xs)
    (ht : P.underlying t = some (.slice e)) (hu : P.underlying u = some .string) (hi : (P.info? e).map (fun j => (j.zero, j.size, j.bytes)) = some (some (.int .u8 0), 1, 1))
    (hb1 : len + s.size ≤ maxLen) (hb2 : len + s.size ≤ 140737488355328)
    (h : ∀ r', rowOK 1 r' (len + s.size) (xs ++ byC s.data.toList) → WX P lops.toArray Q K rest n ((d, rowV r' (len + s.size)) :: l) (l1 ++ rowO e r' ++ l2) ro) : WX P lops.toArray Q K ((none, i) :: rest) n l own ro := by
  subst hown
  intro a w ha hw
  have hd' : d < n := of_decide_eq_true hd
  have hw1 := go_none (lops := lops) (n := n) (l := l) (o := ⟨some d, .call ⟨.builtin .append, #[x, y], #[t, u]⟩, ty, pos, af, none⟩) rfl a ha
  simp only [wpX, List.getElem?_toArray, ho]
  intro w' hl'
  rw [if_pos hw1]
  have hM := hw.later hl'
  obtain ⟨inf, hi1, hi2⟩ := Option.map_eq_some_iff.1 hi
  simp only [Prod.mk.injEq] at hi2
  obtain ⟨hiz, his, hib⟩ := hi2
  have hown := row_owns (own := []) hM hr
  obtain ⟨v', w2, hrun, h2, h3, h4⟩ := Lib.run_append_own_string (P := P) w' 0 t u ty e inf ht hu hi1 hiz his hib (rowV r len) len xs hown s hb1 hb2 (Nat.zero_le _)
  have h5 := append_str_block (P := P) t u ty e inf ht hu hi1 hiz his hib _ v' len xs hown s hb1 hb2 hrun h4
  obtain ⟨r', rfl, hok, hM2⟩ := hM.append h2 h3 h5
  unfold Oper.wp execOp
  simp only [resolve, invoke, builtin, Sem.run_bind, Sem.run_pure, Result.andThen_ok, List.map_toArray, List.map_cons, List.map_nil, ha.eval hx, ha.eval hy, hrun]
  exact h r' hok _ _ (ha.put _ hd') hM2
end
end Go.PK

namespace Go.PK
open Go Go.RowKit
def bl (s : ByteArray) : List UInt8 := s.data.toList
theorem bl_len (s : ByteArray) : (bl s).length = s.size := by unfold bl; simp
theorem bl_str (s : ByteArray) : (⟨(bl s).toArray⟩ : ByteArray) = s := by unfold bl; simp
theorem Mem.perm {w : World} {own own' : List (Nat × Obj)} {ro : List Snap} (h : Mem w own ro) (p : own.Perm own') : Mem w own' ro where
  own_at := fun q hq => h.own_at q (p.mem_iff.2 hq)
  own_nd := (p.map (·.1)).nodup_iff.1 h.own_nd
  ro_st := h.ro_st
  ro_at := h.ro_at
  apart := fun q hq => h.apart q (p.mem_iff.2 hq)
theorem mk_size (l : List UInt8) : (⟨l.toArray⟩ : ByteArray).size = l.length := List.size_toArray
end Go.PK

namespace Go.PK
open Go Go.RowKit
theorem later_grow (w : World) (n : Nat) (os : Array Obj) : Later w (Sort.grow (w.drewN n) os) where
  os := rfl
  tape := rfl
  output := rfl
  size := by rw [Sort.size_grow]; show w.heap.size ≤ w.heap.size + os.size; omega
  block := fun k hk => by
    show (w.heap ++ os)[k]? = w.heap[k]?
    rw [Array.getElem?_append_left hk]
def itoaS (n : Int) : ByteArray := ⟨(Lib.itoa n).toArray⟩
theorem itoaS_size {n : Int} (h : in64 n) : (itoaS n).size ≤ 21 := by
  unfold itoaS; rw [mk_size]; exact Lib.itoa_length_le n h.1 h.2
structure Ord where
  id : Int
  fund : Int
  src : Int
  num : Int
  copies : Int
  price : Int
  prom : Int
  paid : Int
  st : Int
deriving DecidableEq
def Ord.cells (o : Ord) : List Value := [.int .i64 o.id, .int .i64 o.fund, .int .i64 o.src, .int .i64 o.num, .int .i64 o.copies, .int .i64 o.price, .int .i64 o.prom, .int .i64 o.paid, .int .i64 o.st]
def Ord.ok (o : Ord) : Prop := in64 o.id ∧ in64 o.fund ∧ in64 o.src ∧ in64 o.num ∧ in64 o.copies ∧ in64 o.price
def wi (a b : Int) (l : List Int) : Bool := !l.any (fun n => decide (n < a) || decide (n > b))
def writB (o : Ord) : Bool := wi 1 999999999 [o.id, o.fund] && wi 0 999999999 [o.src, o.num, o.price] && wi 1 9999 [o.copies]
inductive RdAll {α : Type} (T : Ty α) (D : Nat → Prop) (w : World) : List (List Value) → List α → Prop where
  | nil : RdAll T D w [] []
  | cons {c : List Value} {x : α} {css : List (List Value)} {xs : List α} (h : T.rd D w c x) (t : RdAll T D w css xs) : RdAll T D w (c :: css) (x :: xs)
theorem RdAll.len {α : Type} {T : Ty α} {D : Nat → Prop} {w : World} : ∀ {css : List (List Value)} {xs : List α}, RdAll T D w css xs → css.length = xs.length ∧ css.flatten.length = xs.length * T.size
  | [], [], .nil => ⟨rfl, by simp⟩
  | _ :: _, _ :: _, .cons h t => by
    have ih := t.len
    have := T.len h
    refine ⟨by simp [ih.1], ?_⟩
    rw [List.flatten_cons, List.length_append, ih.2, this, List.length_cons, Nat.succ_mul, Nat.add_comm]
theorem RdAll.at {α : Type} {T : Ty α} {D : Nat → Prop} {w : World} : ∀ {css : List (List Value)} {xs : List α}, RdAll T D w css xs → ∀ j (h1 : j < css.length) (h2 : j < xs.length), T.rd D w css[j] xs[j]
  | _, _, .nil, _, h, _ => by simp at h
  | _, _, .cons h t, 0, _, _ => h
  | _, _, .cons h t, j + 1, h1, h2 => t.at j (by simpa using h1) (by simpa using h2)
theorem RdAll.rd {α : Type} {T : Ty α} {w : World} {own : List (Nat × Obj)} {ro : List Snap} {e : TypeId} {b n : Nat} {css : List (List Value)} {xs : List α} {w0 : World} (h : RdAll T (newD w0 own) w css xs) (hm : Mem w own ro) (hin : (b, Obj.cells css.flatten.toArray e) ∈ own) (hb : (w0, fun _ => True) ∈ ro) (hn : n = xs.length) (hx : xs.length ≤ maxLen) :
    sliceRd T (fun b => w0.heap.size ≤ b) w (.slice (some ⟨b, 0, none⟩) n n) xs := by
  subst hn
  have hl := h.len
  have hT : RowT T (newD w0 own) w (some (b, css.flatten, xs.length)) xs := ⟨css, hl.1, rowOK_lit hl.2 hx, h.at⟩
  exact hT.rd hm (fun p hp => by rw [List.mem_singleton.1 hp]; exact hin) (fun _ h => h.1) (fun p hp => by rw [List.mem_singleton.1 hp]; exact hm.newer hb hin) rfl
end Go.PK

namespace Go.PK
open Go Go.RowKit
def digB8 (c : UInt8) : Bool := decide (48 ≤ c.toNat ∧ c.toNat ≤ 57)
def numF (l : List UInt8) (a : Nat) : Nat := l.foldl (fun a c => 10 * a + (c.toNat - 48)) a
theorem numF_snoc (l : List UInt8) (c : UInt8) (a : Nat) : numF (l ++ [c]) a = 10 * numF l a + (c.toNat - 48) := by simp [numF]
def canonL (l : List UInt8) : Prop := l ≠ [] ∧ (∀ c ∈ l, digB8 c = true) ∧ (1 < l.length → l.head? ≠ some 48)
instance (l : List UInt8) : Decidable (canonL l) := by unfold canonL; infer_instance
theorem dig_of {d : Nat} (h : d < 10) : (UInt8.ofNat (48 + d)).toNat = 48 + d := by
  rw [UInt8.toNat_ofNat_of_lt' (by show _ < 256; omega)]
theorem digB8_of {d : Nat} (h : d < 10) : digB8 (UInt8.ofNat (48 + d)) = true := by
  unfold digB8; rw [dig_of h]; exact decide_eq_true (by omega)
theorem dec_small {u : Nat} (h : u < 10) : Lib.decDigits u = [UInt8.ofNat (48 + u)] := by rw [Lib.decDigits, dif_pos h]
theorem dec_big {u : Nat} (h : ¬u < 10) : Lib.decDigits u = Lib.decDigits (u / 10) ++ [UInt8.ofNat (48 + u % 10)] := by rw [Lib.decDigits, dif_neg h]
theorem dec_num : ∀ (n u : Nat), u ≤ n → numF (Lib.decDigits u) 0 = u
  | 0, u, h => by rw [dec_small (by omega)]; show 10 * 0 + ((UInt8.ofNat (48 + u)).toNat - 48) = u; rw [dig_of (by omega)]; omega
  | n + 1, u, h => by
    by_cases hu : u < 10
    · rw [dec_small hu]; show 10 * 0 + ((UInt8.ofNat (48 + u)).toNat - 48) = u; rw [dig_of hu]; omega
    · rw [dec_big hu, numF_snoc, dec_num n (u / 10) (by omega), dig_of (by omega)]; omega
theorem dec_canon : ∀ (n u : Nat), u ≤ n → canonL (Lib.decDigits u) ∧ (0 < u → (Lib.decDigits u).head? ≠ some 48)
  | n, u, h => by
    by_cases hu : u < 10
    · rw [dec_small hu]
      refine ⟨⟨by simp, fun c hc => by rw [List.mem_singleton.1 hc]; exact digB8_of hu, fun h => by simp at h⟩, fun h0 h1 => ?_⟩
      have h1 : UInt8.ofNat (48 + u) = 48 := by simpa using h1
      have := congrArg UInt8.toNat h1
      rw [dig_of hu] at this
      have e : (48 : UInt8).toNat = 48 := rfl
      omega
    · match n with
      | 0 => omega
      | n + 1 =>
        obtain ⟨⟨a1, a2, a3⟩, a4⟩ := dec_canon n (u / 10) (by omega)
        rw [dec_big hu]
        have hh : (Lib.decDigits (u / 10) ++ [UInt8.ofNat (48 + u % 10)]).head? = (Lib.decDigits (u / 10)).head? := by
          cases hd : Lib.decDigits (u / 10) with
          | nil => exact absurd hd a1
          | cons x l => rfl
        refine ⟨⟨by simp, fun c hc => ?_, fun _ => by rw [hh]; exact a4 (by omega)⟩, fun _ => by rw [hh]; exact a4 (by omega)⟩
        rcases List.mem_append.1 hc with hc | hc
        · exact a2 c hc
        · rw [List.mem_singleton.1 hc]; exact digB8_of (by omega)
theorem dec_len : ∀ (k u : Nat), (Lib.decDigits u).length ≤ k + 1 ↔ u < 10 ^ (k + 1)
  | 0, u => by
    by_cases hu : u < 10
    · rw [dec_small hu]; simp; omega
    · rw [dec_big hu]
      have := (dec_canon _ (u / 10) (Nat.le_refl _)).1.1
      have h2 := List.length_pos_iff.2 this
      rw [List.length_append, List.length_singleton]
      constructor
      · intro h; omega
      · intro h; simp at h; omega
  | k + 1, u => by
    by_cases hu : u < 10
    · rw [dec_small hu]
      have : 10 ^ 1 ≤ 10 ^ (k + 1 + 1) := Nat.pow_le_pow_right (by decide) (by omega)
      simp; omega
    · rw [dec_big hu, List.length_append, List.length_singleton]
      have ih := dec_len k (u / 10)
      have e : 10 ^ (k + 1 + 1) = 10 * 10 ^ (k + 1) := by rw [Nat.pow_succ, Nat.mul_comm]
      rw [e]
      constructor
      · intro h; have := ih.1 (by omega); omega
      · intro h; have := ih.2 (by omega); omega
theorem parse_ok : ∀ (l : List UInt8) (k a : Nat), (∀ c ∈ l, digB8 c = true) → a < 10 ^ k → k + l.length ≤ 18 → Lib.parseUint10 a l = .ok (numF l a)
  | [], _, _, _, _, _ => rfl
  | c :: l, k, a, hd, ha, hk => by
    have hc := of_decide_eq_true (hd c (List.mem_cons_self ..))
    have e : 10 ^ (k + 1) = 10 * 10 ^ k := by rw [Nat.pow_succ, Nat.mul_comm]
    have hp : 10 ^ (k + 1) ≤ 10 ^ 18 := Nat.pow_le_pow_right (by decide) (by rw [List.length_cons] at hk; omega)
    have hp2 : (10 : Nat) ^ 18 = 1000000000000000000 := by decide
    rw [Lib.parseUint10, if_pos hc, if_neg (by omega), if_neg (by omega)]
    rw [parse_ok l (k + 1) (a * 10 + (c.toNat - 48)) (fun x hx => hd x (List.mem_cons_of_mem _ hx)) (by omega) (by rw [List.length_cons] at hk; omega)]
    show Lib.NumEnd.ok (numF l _) = .ok (numF l (10 * a + (c.toNat - 48)))
    rw [Nat.mul_comm a 10]
theorem atoi_digits {l : List UInt8} (h : canonL l) (hk : l.length ≤ 18) : Lib.atoiAll l = .ok ((numF l 0 : Nat) : Int) := by
  obtain ⟨h1, h2, _⟩ := h
  cases l with
  | nil => exact absurd rfl h1
  | cons c r =>
    have hc := of_decide_eq_true (h2 c (List.mem_cons_self ..))
    have hp := parse_ok (c :: r) 0 0 h2 (by decide) (by omega)
    unfold Lib.atoiAll
    dsimp only
    rw [if_neg (by omega)]
    unfold Lib.parseMag
    rw [if_neg (by simp), hp]
    dsimp only
    have hlt : numF (c :: r) 0 < 10 ^ 18 := by
      have key : ∀ (l : List UInt8) (k a : Nat), (∀ c ∈ l, digB8 c = true) → a < 10 ^ k → numF l a < 10 ^ (k + l.length) := by
        intro l
        induction l with
        | nil => intro k a _ ha; exact ha
        | cons x l ih =>
          intro k a hd ha
          have hx := of_decide_eq_true (hd x (List.mem_cons_self ..))
          have e : 10 ^ (k + 1) = 10 * 10 ^ k := by rw [Nat.pow_succ, Nat.mul_comm]
          have := ih (k + 1) (10 * a + (x.toNat - 48)) (fun y hy => hd y (List.mem_cons_of_mem _ hy)) (by omega)
          rw [List.length_cons, show k + (l.length + 1) = k + 1 + l.length by omega]
          exact this
      have h3 := key (c :: r) 0 0 h2 (by decide)
      have h4 : 10 ^ (0 + (c :: r).length) ≤ 10 ^ 18 := Nat.pow_le_pow_right (by decide) (by omega)
      omega
    have hp2 : (10 : Nat) ^ 18 = 1000000000000000000 := by decide
    rw [if_neg (by omega), if_neg (by omega), if_neg (by omega)]
theorem itoaS_nn {n : Int} (h : 0 ≤ n) : bl (itoaS n) = Lib.decDigits n.toNat := by
  unfold itoaS Lib.itoa; rw [if_neg (by omega)]; rfl
theorem itoa_canon {n : Int} (h : 0 ≤ n) : canonL (bl (itoaS n)) := by rw [itoaS_nn h]; exact (dec_canon _ _ (Nat.le_refl _)).1
theorem itoa_num {n : Int} (h : 0 ≤ n) : ((numF (bl (itoaS n)) 0 : Nat) : Int) = n := by rw [itoaS_nn h, dec_num _ _ (Nat.le_refl _)]; omega
theorem itoa_sz {n : Int} (h : 0 ≤ n) (k : Nat) : (itoaS n).size ≤ k + 1 ↔ n < 10 ^ (k + 1) := by
  rw [← bl_len, itoaS_nn h, dec_len]
  constructor
  · intro h2
    have h3 : ((n.toNat : Nat) : Int) < ((10 ^ (k + 1) : Nat) : Int) := Int.ofNat_lt.2 h2
    rw [Int.toNat_of_nonneg h] at h3
    simpa using h3
  · intro h2
    have h3 : ((n.toNat : Nat) : Int) < ((10 ^ (k + 1) : Nat) : Int) := by rw [Int.toNat_of_nonneg h]; simpa using h2
    exact Int.ofNat_lt.1 h3
theorem bl_app (a b : ByteArray) : bl (a ++ b) = bl a ++ bl b := by
  unfold bl; rw [ByteArray.data_append, Array.toList_append]
end Go.PK

namespace Go.PK
open Go Go.RowKit
def txO (l : List Seg) (n e c : Nat) : Option ByteArray := ((l[n]?).bind fun x => x.els[e]?).bind fun y => y[c]?
def txt (l : List Seg) (n e c : Nat) : ByteArray := (txO l n e c).getD ⟨#[]⟩
def wrO (o : Ord) : Prop := (1 ≤ o.id ∧ o.id ≤ 999999999) ∧ (1 ≤ o.fund ∧ o.fund ≤ 999999999) ∧ (0 ≤ o.src ∧ o.src ≤ 999999999) ∧ (0 ≤ o.num ∧ o.num ≤ 999999999) ∧ (0 ≤ o.price ∧ o.price ≤ 999999999) ∧ (1 ≤ o.copies ∧ o.copies ≤ 9999)
instance (o : Ord) : Decidable (wrO o) := by unfold wrO; infer_instance
theorem writB_iff (o : Ord) : writB o = true ↔ wrO o := by
  unfold writB wi wrO
  simp only [List.any_cons, List.any_nil, Bool.or_false, Bool.and_eq_true, Bool.not_eq_true', Bool.or_eq_false_iff, decide_eq_false_iff_not]
  omega
theorem p3 (a b c : UInt8) (s : ByteArray) : (⟨#[a, b, c]⟩ : ByteArray) ++ s = ((⟨#[a, b]⟩ : ByteArray) ++ ⟨#[c]⟩) ++ s := rfl
theorem p4 (a b c d : UInt8) (s : ByteArray) : (⟨#[a, b, c, d]⟩ : ByteArray) ++ s = ((⟨#[a, b, c]⟩ : ByteArray) ++ ⟨#[d]⟩) ++ s := rfl
theorem c46 : ((46 : UInt8).toNat < 48 ∨ 57 < (46 : UInt8).toNat) := .inl (by decide)
end Go.PK

namespace Go.PK
open Go Go.RowKit
end Go.PK

namespace Go.PK
open Go Go.RowKit
def pf (o : Ord) : Ord := { o with fund := 1 }
end Go.PK

namespace Go.PK
open Go Go.RowKit
end Go.PK

namespace Go.PK
open Go Go.RowKit
section
variable {P : Program} {n : Nat} {l : List (Nat × Value)} {own : List (Nat × Obj)} {ro : List Snap} {ty t t' : TypeId} {x y : Operand} {k k' : IntKind} {a b : Int}
theorem v_conv64 {td : TypeDesc} (hs : P.underlying t = some td) (hd : P.underlying t' = some (.int .i64)) (hx : ev l x = some (.int k a)) (h : -9223372036854775808 ≤ a ∧ a ≤ 9223372036854775807) : OpV P n l own ro (.convert t t' x) ty (.int .i64 a) := by
  have := v_conv (n := n) (own := own) (ro := ro) (ty := ty) hs hd hx
  rwa [wrap_in h] at this
theorem v_remN {a b : Nat} (hx : ev l x = some (.int k (a : Nat))) (hy : ev l y = some (.int k (b : Nat))) (h0 : b ≠ 0) : OpV P n l own ro (.binOp .rem t x y t') ty (.int k ((a % b : Nat) : Int)) :=
  v_rem hx hy (by omega)
theorem v_quoN {a b : Nat} (hx : ev l x = some (.int .i64 (a : Nat))) (hy : ev l y = some (.int .i64 (b : Nat))) (h0 : b ≠ 0) (h : a ≤ 9223372036854775807) : OpV P n l own ro (.binOp .quo t x y t') ty (.int .i64 ((a / b : Nat) : Int)) :=
  v_quoi (c := ((a / b : Nat) : Int)) hx hy (by omega) rfl (by have h2 := Nat.div_le_self a b; generalize a / b = q at h2 ⊢; constructor <;> omega)
theorem v_scut_from {e : TypeId} {A : Option Addr} {len cap i m : Nat} {kk : IntKind} (ht : P.underlying t = some (.slice e)) (hs : (P.info? e).map (·.size) = some m) (hx : ev l x = some (.slice A len cap)) (hy : ev l y = some (.int kk (i : Nat))) (hi : i ≤ len) (hc : len ≤ cap) :
    OpV P n l own ro (.slice t x (some y) none none) ty (.slice (if cap = i then A else A.map (fun a => a.add (i * m))) (len - i) (cap - i)) := by
  intro a w o ha hw ho _
  have h2 : (Instr.sliceAt t (.slice A len cap) (some (.int kk (i : Nat))) none none).run P w = .ok (.slice (if cap = i then A else A.map (fun a => a.add (i * m))) (len - i) (cap - i)) w := by
    simp [Instr.sliceAt, Instr.slice, Instr.sliceBounds, Instr.sliceBound, asIntOf, run_underlying ht, hi, run_sizeOf hs]
  simp [execOp, ho, ha.eval hx, ha.eval hy, h2]
end
end Go.PK

namespace Go.PK
open Go Go.RowKit
section
variable {P : Program} {n : Nat} {l : List (Nat × Value)} {own : List (Nat × Obj)} {ro : List Snap} {ty t t' : TypeId} {x y : Operand} {k k' : IntKind} {a b : Int}
def isIface (v : Value) (b : Bool) : Prop := (v = .nilIface ∧ b = false) ∨ (∃ d u, v = .iface d u) ∧ b = true
theorem v_sliceNil {e : TypeId} {A : Option Addr} {m c : Nat} (ht : P.underlying t = some (.slice e)) (hx : ev l x = some (.slice A m c)) : OpV P n l own ro (.binOp .eql t x (.const (.slice none 0 0)) t') ty (.bool A.isNone) := by
  intro a w o ha _ ho _
  have e0 : a.eval (.const (.slice none 0 0)) = .slice none 0 0 := rfl
  have h : ∀ d : Nat, (Op.equalIn (d + 1) t (.slice A m c) (.slice none 0 0)).run P w = .ok A.isNone w := fun d => by
    cases A <;> simp [Op.equalIn, run_underlying ht]
  have h2 : (Op.equal t (.slice A m c) (.slice none 0 0)).run P w = .ok A.isNone w := h 9999
  simp [execOp, ho, ha.eval hx, e0, eqGuard, binOp, h2]
end
end Go.PK

namespace Go.PK
open Go Go.RowKit
end Go.PK

namespace Go.PK
open Go Go.RowKit
section
variable {P : Program} {n : Nat} {l : List (Nat × Value)} {own : List (Nat × Obj)} {ro : List Snap} {Q : Exit → Act → World → Prop} {K : Act → World → Prop} {R : Ending → World → Prop} {fn : Func}
end
end Go.PK

namespace Go.PK
open Go Go.RowKit
theorem RowT.any {α : Type} {T : Ty α} {D' : Nat → Prop} {w wx : World} {own : List (Nat × Obj)} {ro : List Snap} {e : TypeId} {r : RowS} {xs : List α} {v : Nat} (h : RowT T (fun _ => False) wx r xs) (hm : Mem w own ro) (hin : ∀ p ∈ rowO e r, p ∈ own) (hD : ∀ p ∈ rowO e r, D' p.1) (hv : v = xs.length) : sliceRd T D' w (rowV r v) xs :=
  RowT.rd (D := fun _ => False) (w := w) (h.keep (fun k hk _ => hk.elim)) hm hin (fun _ hx => hx.elim) hD hv
end Go.PK

namespace Go.PK
open Go Go.RowKit
end Go.PK

namespace Go.PK
open Go Go.RowKit
end Go.PK

namespace Go.PK
open Go Go.RowKit
def Suf (s : ByteArray) (a : Nat) (l : List UInt8) : Prop := s.data.toList.drop a = l ∧ a ≤ s.size
theorem ba_len (s : ByteArray) : s.data.toList.length = s.size := by rw [Array.length_toList]; rfl
theorem Suf.cons {s : ByteArray} {a : Nat} {x : UInt8} {l : List UInt8} (h : Suf s a (x :: l)) : a < s.size ∧ byteAt s a = x ∧ Suf s (a + 1) l := by
  obtain ⟨h1, h2⟩ := h
  have hl := congrArg List.length h1
  rw [List.length_drop, ba_len, List.length_cons] at hl
  have hlt : a < s.size := by omega
  have h3 : s.data.toList[a]? = some x := by
    have := congrArg (fun q => q[0]?) h1
    simpa [List.getElem?_drop] using this
  refine ⟨hlt, ?_, ?_, by omega⟩
  · unfold byteAt; rw [List.getD_eq_getElem?_getD, h3]; rfl
  · have := congrArg (List.drop 1) h1
    rw [List.drop_drop] at this
    simpa using this
theorem Suf.nil {s : ByteArray} {a : Nat} (h : Suf s a []) : a = s.size := by
  obtain ⟨h1, h2⟩ := h
  have hl := congrArg List.length h1
  rw [List.length_drop, ba_len, List.length_nil] at hl
  omega
end Go.PK

namespace Go.PK
open Go Go.RowKit
end Go.PK

namespace Go.PK
open Go Go.RowKit
structure FSt where
  al : Int
  sp : Int
  en : Int
deriving DecidableEq
def FSt.free (f : FSt) : Int := f.al - f.sp - f.en
def fundOK (f : FSt) : Prop := 0 ≤ f.sp ∧ 0 ≤ f.en ∧ f.sp + f.en ≤ f.al ∧ f.al ≤ 1000000000000000
def encP (f : FSt) (n : Int) : Int × FSt := if n < 0 then (1, f) else if n > f.free then (60, f) else (0, { f with en := f.en + n })
def relP (f : FSt) (n : Int) : Int × FSt := if n < 0 then (1, f) else if n > f.en then (60, f) else (0, { f with en := f.en - n })
def spdP (f : FSt) (n : Int) : Int × FSt := if n < 0 then (1, f) else if n > f.free then (60, f) else (0, { f with sp := f.sp + n })
theorem enc_ok {f : FSt} {n : Int} (h : fundOK f) : fundOK (encP f n).2 := by
  unfold encP FSt.free; unfold fundOK at h ⊢
  split
  · exact h
  · split
    · exact h
    · dsimp only; omega
theorem rel_ok {f : FSt} {n : Int} (h : fundOK f) : fundOK (relP f n).2 := by
  unfold relP; unfold fundOK at h ⊢
  split
  · exact h
  · split
    · exact h
    · dsimp only; omega
theorem spd_ok {f : FSt} {n : Int} (h : fundOK f) : fundOK (spdP f n).2 := by
  unfold spdP FSt.free; unfold fundOK at h ⊢
  split
  · exact h
  · split
    · exact h
    · dsimp only; omega
def nearP (tol p q : Int) : Prop := 1000 * max (p - q) (q - p) ≤ tol * q
instance (tol p q : Int) : Decidable (nearP tol p q) := by unfold nearP; infer_instance
def resP (x : Ord) : Int := (x.prom - x.paid) * x.price
def placedO (x : Ord) : Ord := { x with prom := x.copies, paid := 0, st := 0 }
def answO (x a : Ord) : Ord := { x with prom := a.copies, price := a.price }
def checkP (tol : Int) (ln : Ord) (x : Option (Ord × Int)) : Int :=
  match x with
  | none => 32
  | some (x, _) =>
    if x.st = -1 then 50
    else if ¬(x.src = ln.src ∧ x.num = ln.num) then 1
    else if ln.copies > x.st - x.paid then 50
    else if ¬nearP tol ln.price x.price then 61
    else 0
end Go.PK

namespace Go.PK
open Go Go.RowKit Go.Maps
section
variable {P : Program} {n : Nat} {l : List (Nat × Value)} {own : List (Nat × Obj)} {ro : List Snap} {ty : TypeId} {x y m : Operand} {t t' kt e : TypeId} {b : Nat} {es : Array MapEntry} {clock : Nat} {f : Value → Option Value}
theorem v_nep {p : Option Addr} {q : TypeId} (ht : P.underlying t = some (.pointer q)) (hx : ev l x = some (.pointer p)) (hy : ev l y = some (.pointer none)) : OpV P n l own ro (.binOp .neq t x y t') ty (.bool (!p.isNone)) := by
  intro A w o ha _ ho _
  have h : ∀ d : Nat, (Op.equalIn (d + 1) t (.pointer p) (.pointer none)).run P w = .ok p.isNone w := fun d => by
    cases p <;> simp [Op.equalIn, run_underlying ht]
  have h2 : (Op.equal t (.pointer p) (.pointer none)).run P w = .ok p.isNone w := h 9999
  simp [execOp, ho, ha.eval hx, ha.eval hy, eqGuard, binOp, h2]
def MapAt (own : List (Nat × Obj)) (ro : List Snap) (b : Nat) (es : Array MapEntry) (clock : Nat) : Prop := ∀ w, Mem w own ro → w.heap[b]? = some (.map es clock)
theorem map_own (h : (b, Obj.map es clock) ∈ own) : MapAt own ro b es clock := fun w hw => hw.own_at _ h
theorem map_ro {ws : World} {D : Nat → Prop} (hs : (ws, D) ∈ ro) (hD : D b) (h : ws.heap[b]? = some (.map es clock)) : MapAt own ro b es clock := fun w hw => (hw.ro_at _ hs b hD (heap_lt h)).trans h
theorem v_lookupH {u v z : Value} {lx : Lit} (ht : P.underlying t = some (.map kt e)) (KK : Keyed P kt) (hz : (P.info? e).bind (·.zero) = some z) (hm : ev l m = some (.map (some b))) (hx : ev l x = some u) (hkey : keyOf P kt u = some lx)
    (hb : MapAt own ro b es clock) (hf : MapF P kt es f) (hv : (f u).getD z = v) : OpV P n l own ro (.lookup t m x false) ty v := by
  intro A w o ha hw ho _
  have hg := hb w hw
  subst hv
  rcases hf.find KK hkey w with ⟨h1, h2⟩ | ⟨j, e, h1, h2, h3, h4⟩
  · simp [execOp, ho, ha.eval hm, ha.eval hx, Instr.lookup, run_underlying ht, MapKept.run_getObj_map hg, KK.check w _ hkey, h1, run_zeroValue hz, h2, Result.andThen]
  · simp [execOp, ho, ha.eval hm, ha.eval hx, Instr.lookup, run_underlying ht, MapKept.run_getObj_map hg, KK.check w _ hkey, h1, h4, Result.andThen]
theorem v_lookup2H {u v z : Value} {lx : Lit} {c : Bool} (ht : P.underlying t = some (.map kt e)) (KK : Keyed P kt) (hz : (P.info? e).bind (·.zero) = some z) (hm : ev l m = some (.map (some b))) (hx : ev l x = some u) (hkey : keyOf P kt u = some lx)
    (hb : MapAt own ro b es clock) (hf : MapF P kt es f) (hv : (f u).getD z = v) (hc : (f u).isSome = c) : OpV P n l own ro (.lookup t m x true) ty (.tuple #[v, .bool c]) := by
  intro A w o ha hw ho _
  have hg := hb w hw
  subst hv hc
  rcases hf.find KK hkey w with ⟨h1, h2⟩ | ⟨j, e, h1, h2, h3, h4⟩
  · simp [execOp, ho, ha.eval hm, ha.eval hx, Instr.lookup, run_underlying ht, MapKept.run_getObj_map hg, KK.check w _ hkey, h1, run_zeroValue hz, h2, Result.andThen]
  · simp [execOp, ho, ha.eval hm, ha.eval hx, Instr.lookup, run_underlying ht, MapKept.run_getObj_map hg, KK.check w _ hkey, h1, h4, Result.andThen]
end
end Go.PK
