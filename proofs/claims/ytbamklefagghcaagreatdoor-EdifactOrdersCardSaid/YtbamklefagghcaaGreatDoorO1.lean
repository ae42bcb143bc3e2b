/- Of the proofs of YtbamklefagghcaaGreatDoor: PkReg PkEng PkOps PkOps2 PkOps3 PkCtl PkData PkLib PkApp PkMap PkFill PkSchema PkRead PkStd PkEx PkMore PkRows PkMade PkDeep PkDeep2 PkShell PkShell2 PkTy PkOps4 PkCal PkCal2 PkCal3 PkOps5, put together. -/
import Derived.StillTail
import Derived.Deep.Quiet
import Derived.Deep.Draws
import Derived.Below
import Derived.WalkKit
import Derived.WalkSpells
import Derived.WalkLawsBesides
import Derived.Maps.AppendAt
import Derived.Maps.Keyed
import Derived.Scope
import Derived.IntWalk
import Derived.Laws.IdiomStrings
import Derived.Laws.OwnMore
import Derived.ProofKit
import Derived.OpenShut
import Derived.ReadAgain
import Derived.Deep.Slices
/- Of the proofs of YtbamklefagghcaaGreatDoor; see NOTES.md. -/
namespace Go.PK
open Go Go.RowKit

/-- A later world: nothing that was there has turned. -/
def Later (w w' : World) : Prop := Below w.heap.size w w'
theorem Later.refl (w : World) : Later w w := Below.refl _ _
theorem Later.trans {a b c : World} (h : Later a b) (k : Later b c) : Later a c := Below.trans h (Below.mono k h.size)
theorem Later.drew (w : World) : Later w w.drew := (Below.refl _ _).drew
theorem Later.drewN (w : World) (n : Nat) : Later w (w.drewN n) := ⟨rfl, rfl, rfl, Nat.le_refl _, fun _ _ => rfl⟩
theorem Later.alloc (w : World) (o : Obj) : Later w (w.alloc o) := (Below.refl _ _).alloc (Nat.le_refl _) o

section
variable {P : Program} {ops : Array Oper} {md : Region.Mode}

def fltUpon (P : Program) (w : World) (v : Value) : Result Next → Prop
  | .ok (.value u) w' => w' = w ∧ u = v
  | .ok .skip w' => w' = w ∧ v = undef
  | .ok (.enter f args) w' => w' = w ∧ Calls P f args w (fun e w'' => e = .returned v ∧ Later w w'')
  | _ => False
def fltAt (P : Program) (o : Oper) (a : Act) (w : World) (v : Value) : Prop := fltUpon P w v ((execOp a.eval o).run P w)
def flt (P : Program) (o : Oper) (a : Act) (w : World) (next : Act → Prop) : Prop := ∃ v, (∀ w', Later w w' → fltAt P o a w' v) ∧ next (a.put o.dst v)
/-- An operation that makes memory, from any later world on. -/
def grw (P : Program) (o : Oper) (a : Act) (w : World) (next : Act → World → Prop) : Prop :=
  ∀ w', Later w w' → o.wp P a w' (fun a'' w'' => Later w' w'' ∧ next a'' w'') (fun _ _ _ => False)

/-- The walk of one order: 'true': an operation that yields the same whenever it comes up; 'false': one that makes memory, and that every other one waits for or comes before. -/
def wpCan (P : Program) (ops : Array Oper) (Q : Act → World → Prop) : List (Bool × Nat) → Act → World → Prop
  | [], a, w => Q a w
  | (b, i) :: rest, a, w =>
    match ops[i]? with
    | none => False
    | some o =>
      if Region.wanted o (yielded ops a.tmps) then
        (match b with
         | true => flt P o a w (fun a' => wpCan P ops Q rest a' w)
         | false => grw P o a w (wpCan P ops Q rest))
      else wpCan P ops Q rest (a.put o.dst undef) w

/-- One operation of the tree. -/
def canOp (P : Program) (ops : Array Oper) (i : Nat) (K : Act → World → Prop) (a : Act) (w : World) : Prop :=
  ∀ w', Later w w' → wpOp P ops (fun _ _ _ => False) i (fun a'' w'' => Later w' w'' ∧ K a'' w'') a w'

theorem canOp_mono {i : Nat} {a : Act} {w : World} {K K' : Act → World → Prop} (h : ∀ a w, K a w → K' a w) (hh : canOp P ops i K a w) : canOp P ops i K' a w :=
  fun w' hw => wpOp_mono (fun _ _ hk => ⟨hk.1, h _ _ hk.2⟩) (hh w' hw)
theorem canOp_later {i : Nat} {a : Act} {w w1 : World} {K : Act → World → Prop} (hw : Later w w1) (hh : canOp P ops i K a w) : canOp P ops i K a w1 :=
  fun w' hw' => hh w' (hw.trans hw')

/-- Whatever order is picked from here on, over the operations before n. -/
def wpAnyC (P : Program) (md : Region.Mode) (ops : Array Oper) (n : Nat) (L : Array Bool → Act → World → Prop) : Nat → Array Bool → Act → World → Prop
  | 0, listed, a, w => L listed a w
  | f + 1, listed, a, w =>
    Region.ready md ops listed ≠ [] ∧ ∀ i ∈ Region.ready md ops listed, i < n ∧ canOp P ops i (wpAnyC P md ops n L f (listed.setIfInBounds i true)) a w

def LaterClosed (L : Array Bool → Act → World → Prop) : Prop := ∀ listed a w w', Later w w' → L listed a w → L listed a w'

theorem wpAnyC_later {n : Nat} {L : Array Bool → Act → World → Prop} (hL : LaterClosed L) : ∀ (f : Nat) (listed : Array Bool) (a : Act) (w w' : World), Later w w' →
    wpAnyC P md ops n L f listed a w → wpAnyC P md ops n L f listed a w'
  | 0, _, _, _, _, h, hh => hL _ _ _ _ h hh
  | _ + 1, _, _, _, _, h, hh => ⟨hh.1, fun i hi => ⟨(hh.2 i hi).1, canOp_later h (hh.2 i hi).2⟩⟩

theorem wpAny_of_can {n g : Nat} {L : Array Bool → Act → World → Prop} {Q' : Exit → Act → World → Prop} (hL : ∀ listed a w, L listed a w → wpAny P md ops Q' g listed a w) :
    ∀ (f : Nat) (listed : Array Bool) (a : Act) (w : World), wpAnyC P md ops n L f listed a w → wpAny P md ops Q' (f + g) listed a w
  | 0, listed, a, w, h => by rw [Nat.zero_add]; exact hL _ _ _ h
  | f + 1, listed, a, w, h => by
    rw [show f + 1 + g = (f + g) + 1 by omega]
    refine ⟨fun h0 => absurd h0 h.1, fun i hi => ?_⟩
    have h1 := (h.2 i hi).2 w (Later.refl w)
    have h2 : wpOp P ops (fun _ _ _ => False) i (wpAny P md ops Q' (f + g) (listed.setIfInBounds i true)) a w :=
      wpOp_mono (fun a' w' h' => wpAny_of_can hL f _ a' w' h'.2) h1
    -- the exits other than the normal one do not come up
    unfold wpOp at h2 ⊢
    split
    · rename_i ho; simp only [ho] at h2; exact h2
    · rename_i o ho
      simp only [ho] at h2
      split
      · rename_i hw
        simp only [hw, if_true] at h2
        rcases h2 with h2 | ⟨_, _, _, h2⟩
        · refine .inl ?_
          unfold Oper.wp at h2 ⊢
          generalize (execOp a.eval o).run P w = r at *
          cases r with
          | ok x w' =>
            cases x <;> simp only [Oper.upon] at h2 ⊢ <;> first
              | exact h2
              | (refine Calls.mono h2 fun e w'' he => ?_
                 cases e with
                 | returned u => exact he
                 | panicked c => exact he.elim
                 | outgrown => obtain ⟨_, _, hf⟩ := he; exact hf.elim)
          | halt x w' => cases x <;> simp only [Oper.upon] at h2 ⊢
        · exact h2.elim
      · rename_i hw
        simp only [hw] at h2
        exact h2

/-- In state 'a', in every world later than 'w', operation 'o' leaves 'v' in its temporary and a later world. -/
def YieldsC (P : Program) (ops : Array Oper) (o : Oper) (v : Value) (a : Act) (w : World) : Prop :=
  (Region.wanted o (yielded ops a.tmps) = true ∧ ∀ w', Later w w' → fltAt P o a w' v) ∨ (Region.wanted o (yielded ops a.tmps) = false ∧ v = undef)

theorem YieldsC.later {o : Oper} {v : Value} {a : Act} {w w' : World} (hw : Later w w') (h : YieldsC P ops o v a w) : YieldsC P ops o v a w' :=
  h.imp (fun h => ⟨h.1, fun w1 h1 => h.2 w1 (hw.trans h1)⟩) id
theorem YieldsC.of_same {o : Oper} {v : Value} {a a' : Act} {w : World} (hy : YieldsC P ops o v a w) (he : execOp a'.eval o = execOp a.eval o)
    (hw : Region.wanted o (yielded ops a'.tmps) = Region.wanted o (yielded ops a.tmps)) : YieldsC P ops o v a' w := by
  unfold YieldsC fltAt at *
  rw [he, hw]
  exact hy

theorem YieldsC.canOp {i : Nat} {o : Oper} {v : Value} {a : Act} {w : World} (hi : ops[i]? = some o) (hy : YieldsC P ops o v a w) {K : Act → World → Prop}
    (h : ∀ w', Later w w' → K (a.put o.dst v) w') : canOp P ops i K a w := by
  intro w' hw'
  unfold Go.wpOp
  simp only [hi]
  rcases hy with ⟨hw, hv⟩ | ⟨hw, rfl⟩
  · rw [if_pos hw]
    refine .inl ?_
    have h3 := hv w' hw'
    unfold fltAt at h3
    unfold Oper.wp
    generalize (execOp a.eval o).run P w' = r at *
    cases r with
    | ok n w1 =>
      cases n <;> simp only [fltUpon] at h3 <;> simp only [Oper.upon]
      case value u => obtain ⟨rfl, rfl⟩ := h3; exact ⟨Later.refl _, h _ hw'⟩
      case skip => obtain ⟨rfl, rfl⟩ := h3; exact ⟨Later.refl _, h _ hw'⟩
      case enter f args =>
        obtain ⟨rfl, hc⟩ := h3
        exact hc.mono fun e w2 ⟨he, hl⟩ => by subst he; exact ⟨hl, h _ (hw'.trans hl)⟩
    | halt x w1 => simp only [fltUpon] at h3
  · rw [if_neg (by rw [hw]; exact Bool.false_ne_true)]
    exact ⟨Later.refl _, h _ hw'⟩

/-- One operation 'oj', apart from 'oi'. -/
theorem canOp_put {j : Nat} {oi oj : Oper} {v : Value} (hj : ops[j]? = some oj) (hap : oi.apart ops oj = true)
    (hsi : ∀ cs b, oi.op ≠ .select cs b) (hsj : ∀ cs b, oj.op ≠ .select cs b) {K : Act → World → Prop} {a : Act} {w : World}
    (hy : YieldsC P ops oi v a w) (h : canOp P ops j K (a.put oi.dst v) w) :
    canOp P ops j (fun a' w' => YieldsC P ops oi v a' w' ∧ K (a'.put oi.dst v) w') a w := by
  obtain ⟨h1, h2, h3⟩ := Oper.apart_spec hap
  intro w' hw'
  have hy' := hy.later hw'
  have keep : ∀ (a : Act) (w : World), YieldsC P ops oi v a w → ∀ u, YieldsC P ops oi v (a.put oj.dst u) w := fun a w hy u =>
    hy.of_same (execOp_put oi hsi a oj.dst u h3) (wanted_put oi a oj.dst u h3)
  have keepD : ∀ d, YieldsC P ops oi v { a with defers := d :: a.defers } w' := fun d => hy'.of_same rfl rfl
  have h := h w' hw'
  unfold Go.wpOp at *
  simp only [hj] at *
  rw [wanted_put oj a oi.dst v h1] at h
  split
  · rename_i hw
    simp only [hw, if_true] at h
    rcases h with h | ⟨hasks, _, _, hlets⟩
    case inr => exact hlets.elim
    refine .inl ?_
    unfold Oper.wp at *
    rw [execOp_put oj hsj a oi.dst v h1] at h
    generalize (execOp a.eval oj).run P w' = r at *
    cases r with
    | ok n w1 =>
      cases n <;> simp only [Oper.upon] at h ⊢
      case value u => exact ⟨h.1, (keep a _ hy' u).later h.1, by rw [← Act.put_comm a v u h2]; exact h.2⟩
      case skip => exact ⟨h.1, (keep a _ hy' _).later h.1, by rw [← Act.put_comm a v undef h2]; exact h.2⟩
      case defer d =>
        refine ⟨h.1, (keep _ _ (keepD d) _).later h.1, ?_⟩
        rw [← Act.put_comm _ v undef h2, ← Act.put_defers]
        exact h.2
      case enter f args =>
        -- the callee's own start: the world w1 may differ from w'
        refine Calls.mono h fun e w2 he => ?_
        cases e with
        | returned u => exact ⟨he.1, (keep a _ hy' u).later he.1, by rw [← Act.put_comm a v u h2]; exact he.2⟩
        | panicked c => exact he
        | outgrown => exact he
      case row row args => exact Rows.mono h fun u w2 he => ⟨he.1, (keep a _ hy' u).later he.1, by rw [← Act.put_comm a v u h2]; exact he.2⟩
    | halt x w1 =>
      cases x <;> simp only [Oper.upon] at h ⊢
  · rename_i hw
    simp only [hw] at h
    exact ⟨h.1, (keep a _ hy' _).later h.1, by rw [← Act.put_comm a v undef h2]; exact h.2⟩

theorem wpAnyC_first {n i : Nat} {oi : Oper} {v : Value} {L : Array Bool → Act → World → Prop} (hL : LaterClosed L) (hi : ops[i]? = some oi) (hsel : ∀ (j : Nat) (o : Oper) cs b, ops[j]? = some o → o.op ≠ .select cs b)
    (hnt : ∀ listed, HeadInv md ops n listed → listed.getD i true = false → ∀ j ∈ Region.ready md ops listed, j < n)
    (hdone : ∀ listed a w, L listed a w → ∀ j ∈ Region.ready md ops listed, n ≤ j) (hin : i < n) :
    ∀ (f : Nat) (listed : Array Bool) (a : Act) (w : World), HeadInv md ops n listed →
      (∀ j oj, ops[j]? = some oj → j ≠ i → listed.getD j true = false → (∀ e ∈ oj.after, Region.binds md e = true → e.on ≠ i) → oi.apart ops oj = true) →
      i ∈ Region.ready md ops listed → YieldsC P ops oi v a w →
      wpAnyC P md ops n L f (listed.setIfInBounds i true) (a.put oi.dst v) w → wpAnyC P md ops n L (f + 1) listed a w := by
  intro f
  induction f with
  | zero =>
    intro listed a w inv _ hr hy H
    have hun := (mem_ready.1 hr).1
    refine ⟨fun h => (by rw [h] at hr; cases hr), fun j hj => ?_⟩
    have hjn := hnt listed inv hun j hj
    refine ⟨hjn, ?_⟩
    by_cases hji : j = i
    · subst hji; exact hy.canOp hi fun w' hw' => hL _ _ _ _ hw' H
    · have := hdone _ _ _ H j (ready_mono hj hji)
      omega
  | succ f ih =>
    intro listed a w inv hfree hr hy H
    have hun := (mem_ready.1 hr).1
    refine ⟨fun h => (by rw [h] at hr; cases hr), fun j hj => ?_⟩
    have hjn := hnt listed inv hun j hj
    refine ⟨hjn, ?_⟩
    by_cases hji : j = i
    · subst hji; exact hy.canOp hi fun w' hw' => wpAnyC_later hL _ _ _ _ _ hw' H
    · have h1 := (H.2 j (ready_mono hj hji)).2
      obtain ⟨hjun, oj, hoj, hall⟩ := mem_ready.1 hj
      have hnot : ∀ e ∈ oj.after, Region.binds md e = true → e.on ≠ i := fun e he hb heq => by
        have h1 := hall e he hb
        rw [heq, getD_both hun] at h1
        cases h1
      have h2 := canOp_put hoj (hfree j oj hoj hji hjun hnot) (fun cs b => hsel i oi cs b hi) (fun cs b => hsel j oj cs b hoj) hy h1
      have hfree' : ∀ k ok, ops[k]? = some ok → k ≠ i → (listed.setIfInBounds j true).getD k true = false →
          (∀ e ∈ ok.after, Region.binds md e = true → e.on ≠ i) → oi.apart ops ok = true := fun k ok hk hki hun hno => by
        refine hfree k ok hk hki ?_ hno
        by_cases hjk : j = k
        · subst hjk; exact hjun
        · rw [getD_set_ne true hjk] at hun; exact hun
      refine canOp_mono (fun a' w' h3 => ih (listed.setIfInBounds j true) a' w' (inv.set hj hjn) hfree' (ready_mono hr (Ne.symm hji)) h3.1 ?_) h2
      rw [Array.setIfInBounds_comm _ _ hji]
      exact h3.2

/-- The check of an order: each operation may come up; a 'true' one is apart from all that are left and do not wait for it; a 'false' one is the only one that may come up. -/
def planB (md : Region.Mode) (ops : Array Oper) (n : Nat) : List (Bool × Nat) → Array Bool → Bool
  | [], listed => Region.seqB md ops (ops.size - n) n listed
  | (true, i) :: rest, listed => decide (i < n) && (Region.ready md ops listed).contains i && Region.free md ops listed i && planB md ops n rest (listed.setIfInBounds i true)
  | (false, i) :: rest, listed => decide (i < n) && decide (Region.ready md ops listed = [i]) && planB md ops n rest (listed.setIfInBounds i true)

def canB (md : Region.Mode) (ops : Array Oper) (n : Nat) (plan : List (Bool × Nat)) : Bool :=
  Region.noSelect ops && (decide (n = ops.size) || (decide (n < ops.size) && Region.sinkB md ops n && Region.chainB md ops n)) && decide (plan.length = n) && planB md ops n plan (Array.replicate ops.size false)

theorem ready_lt {listed : Array Bool} : ∀ j ∈ Region.ready md ops listed, j < ops.size := fun j hj => by
  obtain ⟨_, o, ho, _⟩ := mem_ready.1 hj
  exact (Array.getElem?_eq_some_iff.1 ho).1

theorem wpAnyC_plan {n : Nat} {Q : Act → World → Prop} (hQ : ∀ a w w', Later w w' → Q a w → Q a w') (hsel : Region.noSelect ops = true)
    (hnt : ∀ i, i < n → ∀ listed, HeadInv md ops n listed → listed.getD i true = false → ∀ j ∈ Region.ready md ops listed, j < n) :
    ∀ (plan : List (Bool × Nat)) (listed : Array Bool) (a : Act) (w : World), HeadInv md ops n listed → planB md ops n plan listed = true → wpCan P ops Q plan a w →
      wpAnyC P md ops n (fun listed' a' w' => Region.seqB md ops (ops.size - n) n listed' = true ∧ Q a' w') plan.length listed a w
  | [], listed, a, w, _, hB, h => ⟨by simpa [planB] using hB, h⟩
  | (true, i) :: rest, listed, a, w, inv, hB, h => by
    simp only [planB, Bool.and_eq_true, decide_eq_true_eq] at hB
    obtain ⟨⟨⟨hin, hr⟩, hf⟩, hB'⟩ := hB
    have hr' : i ∈ Region.ready md ops listed := by simpa using hr
    unfold wpCan at h
    cases ho : ops[i]? with
    | none => simp only [ho] at h
    | some o =>
      simp only [ho] at h
      obtain ⟨v, hy, hK⟩ : ∃ v, YieldsC P ops o v a w ∧ wpCan P ops Q rest (a.put o.dst v) w := by
        by_cases hw : Region.wanted o (yielded ops a.tmps) = true
        · rw [if_pos hw] at h
          obtain ⟨v, h1, h2⟩ := h
          exact ⟨v, .inl ⟨hw, h1⟩, h2⟩
        · rw [if_neg hw] at h
          exact ⟨undef, .inr ⟨by simpa using hw, rfl⟩, h⟩
      exact wpAnyC_first (fun _ _ _ _ hw hq => ⟨hq.1, hQ _ _ _ hw hq.2⟩) ho (Region.noSelect_spec hsel) (hnt i hin) (fun _ _ _ hL => seqB_ready hL.1) hin rest.length listed a w inv (Region.free_spec ho hf) hr' hy
        (wpAnyC_plan hQ hsel hnt rest _ _ _ (inv.set hr' hin) hB' hK)
  | (false, i) :: rest, listed, a, w, inv, hB, h => by
    simp only [planB, Bool.and_eq_true, decide_eq_true_eq] at hB
    obtain ⟨⟨hin, hr⟩, hB'⟩ := hB
    have hr' : i ∈ Region.ready md ops listed := by rw [hr]; simp
    unfold wpCan at h
    cases ho : ops[i]? with
    | none => simp only [ho] at h
    | some o =>
      simp only [ho] at h
      refine ⟨by rw [hr]; simp, fun j hj => ?_⟩
      rw [hr] at hj
      have hji : j = i := by simpa using hj
      subst hji
      refine ⟨hin, fun w' hw' => ?_⟩
      unfold wpOp
      simp only [ho]
      by_cases hw : Region.wanted o (yielded ops a.tmps) = true
      · rw [if_pos hw] at h ⊢
        exact .inl (Oper.wp_mono (fun a' w2 hk => ⟨hk.1, wpAnyC_plan hQ hsel hnt rest _ _ _ (inv.set hr' hin) hB' hk.2⟩) (h w' hw'))
      · rw [if_neg hw] at h ⊢
        exact ⟨Later.refl _, wpAnyC_later (fun _ _ _ _ hw hq => ⟨hq.1, hQ _ _ _ hw hq.2⟩) _ _ _ _ _ hw' (wpAnyC_plan hQ hsel hnt rest _ _ _ (inv.set hr' hin) hB' h)⟩

/-- A REGION THAT DRAWS ITS ORDER, WALKED IN ONE ORDER: 'plan' lists its first operations (those before n), the rest comes up one behind the other. -/
theorem wp_region_can {id : Nat} {Q : Exit → Act → World → Prop} {a : Act} {w : World} {l : List Oper} (n : Nat) (plan : List (Bool × Nat)) (hm : P.follows .mixedOrders = true) (hB : canB .any l.toArray n plan = true)
    (h : wpCan P l.toArray (fun a' w' => ∀ w'', Later w' w'' → wpList P l.toArray Q (l.drop n) a' w'') plan a w) : (Code.region id l.toArray true).wp P Q a w := by
  simp only [canB, Bool.and_eq_true, decide_eq_true_eq] at hB
  obtain ⟨⟨⟨hsel, hn⟩, hlen⟩, hpl⟩ := hB
  have hnle : n ≤ l.toArray.size := by
    rcases Bool.or_eq_true _ _ ▸ hn with hn | hn
    · simp only [decide_eq_true_eq] at hn; omega
    · simp only [Bool.and_eq_true, decide_eq_true_eq] at hn; omega
  have hnt : ∀ i, i < n → ∀ listed, HeadInv .any l.toArray n listed → listed.getD i true = false → ∀ j ∈ Region.ready .any l.toArray listed, j < n := by
    intro i hin listed inv hun j hj
    rcases Bool.or_eq_true _ _ ▸ hn with hn | hn
    · simp only [decide_eq_true_eq] at hn
      have := ready_lt j hj
      omega
    · simp only [Bool.and_eq_true, decide_eq_true_eq] at hn
      obtain ⟨⟨hn, hs⟩, hc⟩ := hn
      rcases Nat.lt_or_ge j n with h | h
      · exact h
      · exact absurd hj (tail_waits hs hc hn inv _ i rfl hin hun j h)
  have inv0 : HeadInv .any l.toArray n (Array.replicate l.toArray.size false) :=
    ⟨by simp, fun j oj _ hl => (by rw [getD_replicate_false] at hl; cases hl), fun t _ ht => getD_in (by simpa using ht) (getD_replicate_false _ _)⟩
  have H := wpAnyC_plan (P := P) (md := .any) (Q := fun a' w' => ∀ w'', Later w' w'' → wpList P l.toArray Q (l.drop n) a' w'') (fun a w w' hw hq w'' hw'' => hq w'' (hw.trans hw'')) hsel hnt plan _ a w inv0 hpl h
  refine wp_region_any hm ?_
  have hdl : (l.drop n).length = l.toArray.size - n := by simp
  have := wpAny_of_can (Q' := Q) (g := l.toArray.size - n) (fun listed a' w' hL => by
    have := wpAny_of_seq (md := .any) (Q' := Q) (l.drop n) n listed a' w' (fun j => by simp [List.getElem?_drop]) (by rw [hdl]; exact hL.1) (hL.2 w' (Later.refl _))
    rwa [hdl] at this) _ _ _ _ (wpAnyC_later (fun _ _ _ _ hw hq => ⟨hq.1, fun w2 h2 => hq.2 w2 (hw.trans h2)⟩) _ _ _ _ _ (Later.drew w) H)
  rw [hlen, show n + (l.toArray.size - n) = l.toArray.size by omega] at this
  exact this
end
end Go.PK

/- Of the proofs of YtbamklefagghcaaGreatDoor; see NOTES.md. -/
namespace Go.PK
open Go Go.RowKit

/-! ## The frame, said of some slots -/
def ev (l : List (Nat × Value)) : Operand → Option Value
  | .tmp t => l.lookup t
  | .const v => some v
  | .global g => some (.pointer (some ⟨g, 0, none⟩))
  | .func f => some (.func (.func f) #[] #[])
def evs (l : List (Nat × Value)) : List Operand → Option (List Value)
  | [] => some []
  | x :: xs => match ev l x, evs l xs with
    | some v, some vs => some (v :: vs)
    | _, _ => none

structure FH (n : Nat) (l : List (Nat × Value)) (a : Act) : Prop where
  sz : a.tmps.size = n
  df : a.defers = []
  at_ : ∀ s v, l.lookup s = some v → a.tmps[s]? = some v

theorem FH.eval {n : Nat} {l : List (Nat × Value)} {a : Act} (h : FH n l a) {x : Operand} {v : Value} (hx : ev l x = some v) : a.eval x = v := by
  cases x with
  | tmp t => simp [Act.eval, h.at_ t v hx]
  | const u => simpa [ev, Act.eval] using hx
  | global g => simpa [ev, Act.eval] using hx
  | func f => simpa [ev, Act.eval] using hx
theorem FH.evals {n : Nat} {l : List (Nat × Value)} {a : Act} (h : FH n l a) : ∀ {xs : List Operand} {vs : List Value}, evs l xs = some vs → xs.map a.eval = vs
  | [], vs, hx => by simp [evs] at hx; simp [hx]
  | x :: xs, vs, hx => by
    simp only [evs] at hx
    split at hx
    · rename_i v us hv hus
      cases hx
      simp [h.eval hv, h.evals hus]
    · cases hx
theorem FH.put {n d : Nat} {l : List (Nat × Value)} {a : Act} (h : FH n l a) (v : Value) (hd : d < n) : FH n ((d, v) :: l) (a.put (some d) v) where
  sz := by simp [Act.put, h.sz]
  df := h.df
  at_ := fun s u hu => by
    simp only [List.lookup_cons] at hu
    by_cases hs : s = d
    · subst hs
      simp at hu
      subst hu
      simp [Act.put, h.sz, hd]
    · have : (s == d) = false := by simpa using hs
      simp only [this] at hu
      have hne : d ≠ s := fun e => hs e.symm
      simp only [Act.put]
      rw [Array.getElem?_setIfInBounds_ne hne]
      exact h.at_ s u hu
/-- Fewer slots. -/
def Sub (l' l : List (Nat × Value)) : Prop := ∀ s v, l'.lookup s = some v → l.lookup s = some v
theorem Sub.nil {l : List (Nat × Value)} : Sub [] l := fun s v h => by simp at h
theorem Sub.cons {l l' : List (Nat × Value)} {d : Nat} {v : Value} (h : l.lookup d = some v) (k : Sub l' l) : Sub ((d, v) :: l') l := fun s u hu => by
  simp only [List.lookup_cons] at hu
  by_cases hs : s = d
  · subst hs; simp at hu; subst hu; exact h
  · have : (s == d) = false := by simpa using hs
    simp only [this] at hu
    exact k s u hu
theorem Sub.refl (l : List (Nat × Value)) : Sub l l := fun _ _ h => h
theorem FH.sub {n : Nat} {l l' : List (Nat × Value)} {a : Act} (h : FH n l a) (k : Sub l' l) : FH n l' a := ⟨h.sz, h.df, fun s v hv => h.at_ s v (k s v hv)⟩

/-! ## The memory: blocks of the call's own, and worlds that are still there -/
abbrev Snap := World × (Nat → Prop)
structure Mem (w : World) (own : List (Nat × Obj)) (ro : List Snap) : Prop where
  own_at : ∀ p ∈ own, w.heap[p.1]? = some p.2
  own_nd : (own.map (·.1)).Nodup
  ro_st : ∀ s ∈ ro, w.os = s.1.os ∧ w.tape = s.1.tape ∧ w.output = s.1.output ∧ s.1.heap.size ≤ w.heap.size
  ro_at : ∀ s ∈ ro, ∀ k, s.2 k → k < s.1.heap.size → w.heap[k]? = s.1.heap[k]?
  apart : ∀ p ∈ own, ∀ s ∈ ro, s.2 p.1 → s.1.heap.size ≤ p.1

theorem heap_lt {w : World} {k : Nat} {o : Obj} (h : w.heap[k]? = some o) : k < w.heap.size := by
  rcases Nat.lt_or_ge k w.heap.size with h' | h'
  · exact h'
  · rw [Array.getElem?_eq_none h'] at h; cases h

section
variable {w w' : World} {own : List (Nat × Obj)} {ro : List Snap}
theorem Mem.later (h : Mem w own ro) (hl : Later w w') : Mem w' own ro where
  own_at := fun p hp => (hl.block p.1 (heap_lt (h.own_at p hp))).trans (h.own_at p hp)
  own_nd := h.own_nd
  ro_st := fun s hs => by
    obtain ⟨h1, h2, h3, h4⟩ := h.ro_st s hs
    exact ⟨hl.os.trans h1, hl.tape.trans h2, hl.output.trans h3, Nat.le_trans h4 hl.size⟩
  ro_at := fun s hs k hk hlt => (hl.block k (Nat.lt_of_lt_of_le hlt (h.ro_st s hs).2.2.2)).trans (h.ro_at s hs k hk hlt)
  apart := h.apart
theorem Mem.lt (h : Mem w own ro) {p : Nat × Obj} (hp : p ∈ own) : p.1 < w.heap.size := heap_lt (h.own_at p hp)
theorem Mem.new (h : Mem w own ro) (o : Obj) : Mem (w.alloc o) ((w.heap.size, o) :: own) ro where
  own_at := fun p hp => by
    rcases List.mem_cons.1 hp with rfl | hp
    · show (w.heap.push o)[w.heap.size]? = some o
      simp
    · exact (Below.heap_alloc w o p.1 (h.lt hp)).trans (h.own_at p hp)
  own_nd := by
    simp only [List.map_cons, List.nodup_cons]
    refine ⟨fun hm => ?_, h.own_nd⟩
    obtain ⟨p, hp, he⟩ := List.mem_map.1 hm
    have := h.lt hp
    omega
  ro_st := (h.later (Later.alloc w o)).ro_st
  ro_at := (h.later (Later.alloc w o)).ro_at
  apart := fun p hp s hs hd => by
    rcases List.mem_cons.1 hp with rfl | hp
    · exact (h.ro_st s hs).2.2.2
    · exact h.apart p hp s hs hd
/-- A world in which one block of the call's own has turned. -/
structure Turned (w w' : World) (b : Nat) (o : Obj) : Prop where
  os : w'.os = w.os
  tape : w'.tape = w.tape
  output : w'.output = w.output
  size : w'.heap.size = w.heap.size
  at_ : w'.heap[b]? = some o
  other : ∀ k, k ≠ b → w'.heap[k]? = w.heap[k]?
theorem Mem.turn {l1 l2 : List (Nat × Obj)} {b : Nat} {o o' : Obj} (h : Mem w (l1 ++ (b, o) :: l2) ro) (ht : Turned w w' b o') : Mem w' (l1 ++ (b, o') :: l2) ro := by
  have hb : (b, o) ∈ l1 ++ (b, o) :: l2 := by simp
  have hnd := h.own_nd
  simp only [List.map_append, List.map_cons] at hnd
  have hne : ∀ p, p ∈ l1 ∨ p ∈ l2 → p.1 ≠ b := by
    intro p hp e
    rw [List.nodup_append] at hnd
    obtain ⟨_, h2, h3⟩ := hnd
    rcases hp with hp | hp
    · exact h3 p.1 (List.mem_map_of_mem hp) b (by simp) e
    · exact (List.nodup_cons.1 h2).1 (e ▸ List.mem_map_of_mem hp)
  refine ⟨fun p hp => ?_, by simpa using h.own_nd, fun s hs => ?_, fun s hs k hk hlt => ?_, fun p hp s hs hd => ?_⟩
  · simp only [List.mem_append, List.mem_cons] at hp
    rcases hp with hp | rfl | hp
    · exact (ht.other _ (hne p (.inl hp))).trans (h.own_at p (by simp [hp]))
    · exact ht.at_
    · exact (ht.other _ (hne p (.inr hp))).trans (h.own_at p (by simp [hp]))
  · obtain ⟨h1, h2, h3, h4⟩ := h.ro_st s hs
    exact ⟨ht.os.trans h1, ht.tape.trans h2, ht.output.trans h3, by rw [ht.size]; exact h4⟩
  · have : k ≠ b := fun e => by
      subst e
      have := h.apart _ hb s hs hk
      simp only at this
      omega
    exact (ht.other k this).trans (h.ro_at s hs k hk hlt)
  · simp only [List.mem_append, List.mem_cons] at hp
    rcases hp with hp | rfl | hp
    · exact h.apart p (by simp [hp]) s hs hd
    · exact h.apart (b, o) hb s hs hd
    · exact h.apart p (by simp [hp]) s hs hd
def notOwn (own : List (Nat × Obj)) : Nat → Prop := fun k => ∀ p ∈ own, p.1 ≠ k
theorem Mem.snap (h : Mem w own ro) : Mem w own ((w, notOwn own) :: ro) where
  own_at := h.own_at
  own_nd := h.own_nd
  ro_st := fun s hs => by
    rcases List.mem_cons.1 hs with rfl | hs
    · exact ⟨rfl, rfl, rfl, Nat.le_refl _⟩
    · exact h.ro_st s hs
  ro_at := fun s hs k hk hlt => by
    rcases List.mem_cons.1 hs with rfl | hs
    · rfl
    · exact h.ro_at s hs k hk hlt
  apart := fun p hp s hs hd => by
    rcases List.mem_cons.1 hs with rfl | hs
    · exact absurd rfl (hd p hp)
    · exact h.apart p hp s hs hd
/-- Fewer blocks, fewer worlds. -/
theorem Mem.less (h : Mem w own ro) {own' : List (Nat × Obj)} {ro' : List Snap} (ho : own'.Sublist own) (hr : ∀ s ∈ ro', s ∈ ro) : Mem w own' ro' :=
  ⟨fun p hp => h.own_at p (ho.subset hp), (ho.map _).nodup h.own_nd, fun s hs => h.ro_st s (hr s hs), fun s hs => h.ro_at s (hr s hs), fun p hp s hs => h.apart p (ho.subset hp) s (hr s hs)⟩
theorem Mem.init (w : World) : Mem w [] [(w, fun _ => True)] :=
  ⟨fun p hp => by simp at hp, by simp, fun s hs => by simp at hs; subst hs; exact ⟨rfl, rfl, rfl, Nat.le_refl _⟩, fun s hs k _ _ => by simp at hs; subst hs; rfl, fun p hp => by simp at hp⟩
theorem Mem.base (h : Mem w own ro) {w0 : World} (hs : (w0, fun _ => True) ∈ ro) : Later w0 w := by
  obtain ⟨h1, h2, h3, h4⟩ := h.ro_st _ hs
  exact ⟨h1, h2, h3, h4, fun k hk => h.ro_at _ hs k trivial hk⟩
theorem Mem.cell_ro (h : Mem w own ro) {s : Snap} (hs : s ∈ ro) {p : Addr} (hd : s.2 p.block) (hlt : p.block < s.1.heap.size) : w.cell? p = s.1.cell? p :=
  World.cell?_of_block (w := s.1) (h.ro_at s hs p.block hd hlt)
theorem cell_lt {w : World} {p : Addr} {v : Value} (h : w.cell? p = some v) : p.block < w.heap.size := by
  unfold World.cell? at h
  split at h
  · exact heap_lt ‹_›
  · cases h
theorem Mem.cell_own (h : Mem w own ro) {b : Nat} {cs : Array Value} {t : TypeId} {fz : Nat × Nat} (hb : (b, Obj.cells cs t fz) ∈ own) (i : Nat) : w.cell? ⟨b, i, none⟩ = cs[i]? :=
  cell_of_row w b i cs t fz (h.own_at _ hb)
end

/-! ## States -/
section
variable {P : Program} {n : Nat} {l : List (Nat × Value)} {own : List (Nat × Obj)} {ro : List Snap}

def W (P : Program) (c : Code) (Q : Exit → Act → World → Prop) (n : Nat) (l : List (Nat × Value)) (own : List (Nat × Obj)) (ro : List Snap) : Prop :=
  ∀ a w, FH n l a → Mem w own ro → c.wp P Q a w
/-- What holds of every state. -/
def S (K : Act → World → Prop) (n : Nat) (l : List (Nat × Value)) (own : List (Nat × Obj)) (ro : List Snap) : Prop := ∀ a w, FH n l a → Mem w own ro → K a w

def wpX (P : Program) (ops : Array Oper) (Q : Exit → Act → World → Prop) (K : Act → World → Prop) : List (Option Bool × Nat) → Act → World → Prop
  | [], a, w => ∀ w', Later w w' → K a w'
  | (k, i) :: rest, a, w => match ops[i]? with
    | none => False
    | some o => match k with
      | some b => if Region.wanted o (yielded ops a.tmps) then
          (match b with
           | true => flt P o a w (fun a' => wpX P ops Q K rest a' w)
           | false => grw P o a w (wpX P ops Q K rest))
          else wpX P ops Q K rest (a.put o.dst undef) w
      | none => ∀ w', Later w w' → if Region.wanted o (yielded ops a.tmps) then o.wp P a w' (wpX P ops Q K rest) Q else wpX P ops Q K rest (a.put o.dst undef) w'

def WX (P : Program) (ops : Array Oper) (Q : Exit → Act → World → Prop) (K : Act → World → Prop) (plan : List (Option Bool × Nat)) (n : Nat) (l : List (Nat × Value)) (own : List (Nat × Obj)) (ro : List Snap) : Prop :=
  ∀ a w, FH n l a → Mem w own ro → wpX P ops Q K plan a w

theorem wpX_later {ops : Array Oper} {Q : Exit → Act → World → Prop} {K : Act → World → Prop} {rest : List Nat} {a : Act} {w w' : World} (hl : Later w w') (h : wpX P ops Q K (rest.map fun i => (none, i)) a w) :
    wpX P ops Q K (rest.map fun i => (none, i)) a w' := by
  cases rest with
  | nil => exact fun w2 h2 => h w2 (hl.trans h2)
  | cons i rest =>
    simp only [List.map_cons, wpX] at h ⊢
    split <;> rename_i ho <;> simp only [ho] at h
    exact fun w2 h2 => h w2 (hl.trans h2)

theorem wpList_of_X {Q : Exit → Act → World → Prop} {lops : List Oper} : ∀ (r : List Oper) (k : Nat) (a : Act) (w : World), lops.drop k = r →
    wpX P lops.toArray Q (fun a w => Q .normal a w) ((List.range' k (lops.length - k)).map fun i => (none, i)) a w → wpList P lops.toArray Q r a w
  | [], k, a, w, hr, h => by
    have hk : lops.length ≤ k := by simpa using hr
    rw [show lops.length - k = 0 by omega] at h
    exact h w (Later.refl _)
  | o :: r, k, a, w, hr, h => by
    have hk : k < lops.length := by
      rcases Nat.lt_or_ge k lops.length with h' | h'
      · exact h'
      · rw [List.drop_eq_nil_of_le h'] at hr; cases hr
    have hd := List.drop_eq_getElem_cons hk
    rw [hr] at hd
    injection hd with h1 h2
    rw [show lops.length - k = (lops.length - (k + 1)) + 1 by omega, List.range'_succ, List.map_cons] at h
    simp only [wpX, List.getElem?_toArray, List.getElem?_eq_getElem hk, ← h1] at h
    have h3 := h w (Later.refl _)
    refine wpList_step fun K hK => ?_
    split <;> rename_i hw
    · rw [if_pos hw] at h3
      exact Oper.wp_mono (fun a' w' hk' => hK _ _ (wpList_of_X r (k + 1) a' w' h2.symm hk')) h3
    · rw [if_neg hw] at h3
      exact hK _ _ (wpList_of_X r (k + 1) _ w h2.symm h3)

def tailFrom (m s : Nat) : List (Option Bool × Nat) := (List.range' m (s - m)).map fun i => (none, i)

theorem wpCan_of_X {lops : List Oper} {Q : Exit → Act → World → Prop} (m : Nat) : ∀ (plan : List (Bool × Nat)) (a : Act) (w : World),
    wpX P lops.toArray Q (fun a w => Q .normal a w) ((plan.map fun p => (some p.1, p.2)) ++ tailFrom m lops.length) a w →
    wpCan P lops.toArray (fun a' w' => ∀ w'', Later w' w'' → wpList P lops.toArray Q (lops.drop m) a' w'') plan a w
  | [], a, w, h => fun w2 h2 => wpList_of_X _ m a w2 rfl (wpX_later h2 h)
  | (b, i) :: plan, a, w, h => by
    simp only [List.map_cons, List.cons_append, wpX] at h
    simp only [wpCan]
    split <;> rename_i ho <;> simp only [ho] at h
    split <;> rename_i hw
    · rw [if_pos hw] at h
      cases b with
      | true => obtain ⟨v, h1, h2⟩ := h; exact ⟨v, h1, wpCan_of_X m plan _ w h2⟩
      | false => exact fun w2 h2 => Oper.wp_mono (fun a' w' hk => ⟨hk.1, wpCan_of_X m plan a' w' hk.2⟩) (h w2 h2)
    · rw [if_neg hw] at h
      exact wpCan_of_X m plan _ w h

/-- A region that draws its order. -/
theorem rg_draw {id : Nat} {Q : Exit → Act → World → Prop} {lops : List Oper} (m : Nat) (plan : List (Bool × Nat)) (hm : P.follows .mixedOrders = true) (hB : canB .any lops.toArray m plan = true)
    (h : WX P lops.toArray Q (fun a w => Q .normal a w) ((plan.map fun p => (some p.1, p.2)) ++ tailFrom m lops.length) n l own ro) : W P (.region id lops.toArray true) Q n l own ro :=
  fun a w ha hw => wp_region_can m plan hm hB (wpCan_of_X m plan a w (h a w ha hw))
/-- A region in the text's order. -/
theorem rg_text {id : Nat} {Q : Exit → Act → World → Prop} {lops : List Oper}
    (h : WX P lops.toArray Q (fun a w => Q .normal a w) (tailFrom 0 lops.length) n l own ro) : W P (.region id lops.toArray false) Q n l own ro :=
  fun a w ha hw => wp_region_lit (wpList_of_X lops 0 a w (by simp) (h a w ha hw))

/-! ## Code -/
section
variable {Q : Exit → Act → World → Prop}
theorem w_seq {x y : Code} (h : W P x (Exit.then (y.wp P Q) Q) n l own ro) : W P (.seq x y) Q n l own ro := fun a w ha hw => wp_seq (h a w ha hw)
theorem w_block {id : Nat} {c : Code} (h : W P c (Exit.inBlock id Q) n l own ro) : W P (.block id c) Q n l own ro := fun a w ha hw => wp_block (h a w ha hw)
theorem w_skip (h : S (Q .normal) n l own ro) : W P .skip Q n l own ro := fun a w ha hw => wp_skip (h a w ha hw)
theorem w_exit {id : Nat} (h : S (Q (.exit id)) n l own ro) : W P (.exit id) Q n l own ro := fun a w ha hw => wp_exit (h a w ha hw)
theorem w_ret (h : S (Q .ret) n l own ro) : W P .ret Q n l own ro := fun a w ha hw => wp_ret (h a w ha hw)
theorem w_cond {c : Operand} {x y : Code} {t : Bool} (hc : ev l c = some (.bool t)) (ht : t = true → W P x Q n l own ro) (hf : t = false → W P y Q n l own ro) : W P (.cond c x y) Q n l own ro :=
  fun a w ha hw => wp_cond_split (ha.eval hc) (fun h => ht h a w ha hw) (fun h => hf h a w ha hw)
/-- A loop: 'σ' is what changes from round to round. -/
theorem w_loop {c : Code} {σ : Type} (I : σ → Prop) (L : σ → List (Nat × Value)) (O : σ → List (Nat × Obj)) (R : σ → List Snap) (μ : σ → Nat) (x0 : σ) (hI : I x0)
    (h0 : ∀ a w, FH n l a → Mem w own ro → FH n (L x0) a ∧ Mem w (O x0) (R x0))
    (round : ∀ x, I x → W P c (Exit.then (fun a w => ∃ x', I x' ∧ μ x' < μ x ∧ FH n (L x') a ∧ Mem w (O x') (R x')) Q) n (L x) (O x) (R x)) : W P (.loop c) Q n l own ro := by
  intro a w ha hw b k cs
  have key : ∀ m x, I x → μ x = m → ∀ a w, FH n (L x) a → Mem w (O x) (R x) →
      ∃ e a' w', Q e a' w' ∧ Arrives P (lone (b.at a (.code c :: .inLoop c :: k)) cs w) b k cs e a' w' := by
    intro m
    induction m using Nat.strongRecOn with
    | _ m ih =>
      intro x hIx hx a w ha hw
      obtain ⟨e, a₁, w₁, hq, harr⟩ := round x hIx a w ha hw b (.inLoop c :: k) cs
      cases e with
      | normal =>
        obtain ⟨x', hI', hlt, ha', hw'⟩ := hq
        obtain ⟨e₂, a₂, w₂, hq₂, harr₂⟩ := ih (μ x') (hx ▸ hlt) x' hI' rfl a₁ w₁ ha' hw'
        exact ⟨e₂, a₂, w₂, hq₂, .of_steps (Steps.trans harr (.one step_inLoop)) harr₂⟩
      | exit id => exact ⟨_, a₁, w₁, hq, .pass (x := .inLoop c) rfl (fun _ _ => .inl (by simp)) harr⟩
      | goto l => exact ⟨_, a₁, w₁, hq, .pass (x := .inLoop c) rfl (fun _ _ => .inl (by simp)) harr⟩
      | ret => exact ⟨_, a₁, w₁, hq, .pass (x := .inLoop c) rfl (fun _ _ => .inl (by simp)) harr⟩
      | panic ch => exact ⟨_, a₁, w₁, hq, .pass (x := .inLoop c) rfl (fun _ _ => .inl (by simp)) harr⟩
      | outgrown => exact ⟨_, a₁, w₁, hq, .pass (x := .inLoop c) rfl (fun _ _ => .inl (by simp)) harr⟩
  obtain ⟨h1, h2⟩ := h0 a w ha hw
  obtain ⟨e, a', w', hq, harr⟩ := key _ x0 hI rfl a w h1 h2
  exact ⟨e, a', w', hq, .of_steps (.one step_loop) harr⟩
end
end
end Go.PK

/- Of the proofs of YtbamklefagghcaaGreatDoor; see NOTES.md. -/
namespace Go.PK
open Go Go.RowKit
set_option linter.unusedVariables false

section
variable {P : Program} {n : Nat} {l : List (Nat × Value)} {own : List (Nat × Obj)} {ro : List Snap} {lops : List Oper} {Q : Exit → Act → World → Prop} {K : Act → World → Prop}
  {rest : List (Option Bool × Nat)} {k : Option Bool} {i d : Nat} {op : Op} {ty : TypeId} {pos : String} {af : Array Edge}

/-- The operation yields v in every world of the state. -/
def OpV (P : Program) (n : Nat) (l : List (Nat × Value)) (own : List (Nat × Obj)) (ro : List Snap) (op : Op) (ty : TypeId) (v : Value) : Prop :=
  ∀ a w (o : Oper), FH n l a → Mem w own ro → o.op = op → o.type = ty → (execOp a.eval o).run P w = .ok (.value v) w

/-- The walk is at its end. -/
theorem x_end (h : S K n l own ro) : WX P lops.toArray Q K [] n l own ro := fun a w ha hw w' hl => h a w' ha (hw.later hl)

/-- The operation is carried out in every state. -/
def Go_ (lops : List Oper) (n : Nat) (l : List (Nat × Value)) (o : Oper) : Prop := ∀ a, FH n l a → Region.wanted o (yielded lops.toArray a.tmps) = true
def No_ (lops : List Oper) (n : Nat) (l : List (Nat × Value)) (o : Oper) : Prop := ∀ a, FH n l a → Region.wanted o (yielded lops.toArray a.tmps) = false
theorem go_none {o : Oper} (h : o.guard = none) : Go_ lops n l o := fun _ _ => by simp [Region.wanted, h]
theorem wanted_some {o : Oper} {a : Act} {j dj : Nat} {want b : Bool} (hg : o.guard = some (j, want)) (hj : (lops[j]?).bind (·.dst) = some dj) (ha : FH n l a) (hb : l.lookup dj = some (.bool b)) :
    Region.wanted o (yielded lops.toArray a.tmps) = (b == want) := by
  simp only [Region.wanted, hg, yielded, List.getElem?_toArray, hj, Option.bind_some, ha.at_ _ _ hb]
  cases b <;> cases want <;> rfl
theorem go_some {o : Oper} {j dj : Nat} {want : Bool} (hg : o.guard = some (j, want)) (hj : (lops[j]?).bind (·.dst) = some dj) (hb : l.lookup dj = some (.bool want)) : Go_ lops n l o :=
  fun a ha => by rw [wanted_some hg hj ha hb]; simp
theorem no_some {o : Oper} {j dj : Nat} {want b : Bool} (hg : o.guard = some (j, want)) (hj : (lops[j]?).bind (·.dst) = some dj) (hb : l.lookup dj = some (.bool b)) (hne : (b == want) = false) : No_ lops n l o :=
  fun a ha => by rw [wanted_some hg hj ha hb, hne]

theorem x_run {o : Oper} (ho : lops[i]? = some o) (hgo : Go_ lops n l o) (hd0 : o.dst = some d) (hk : k.getD true = true) (hd : decide (d < n) = true) {v : Value} (hv : OpV P n l own ro o.op o.type v)
    (h : WX P lops.toArray Q K rest n ((d, v) :: l) own ro) : WX P lops.toArray Q K ((k, i) :: rest) n l own ro := by
  intro a w ha hw
  have hd' : d < n := of_decide_eq_true hd
  have hw1 := hgo a ha
  simp only [wpX, List.getElem?_toArray, ho]
  cases k with
  | none =>
    intro w' hl
    rw [if_pos hw1]
    unfold Oper.wp
    rw [hv a w' _ ha (hw.later hl) rfl rfl]
    show wpX P lops.toArray Q K rest (a.put o.dst v) w'
    rw [hd0]
    exact h _ w' (ha.put v hd') (hw.later hl)
  | some b =>
    simp at hk
    subst hk
    dsimp only
    rw [if_pos hw1]
    refine ⟨v, fun w' hl => ?_, by rw [hd0]; exact h _ w (ha.put v hd') hw⟩
    unfold fltAt
    rw [hv a w' _ ha (hw.later hl) rfl rfl]
    exact ⟨rfl, rfl⟩
theorem x_pass {o : Oper} (ho : lops[i]? = some o) (hno : No_ lops n l o) (hd0 : o.dst = some d) (hd : decide (d < n) = true)
    (h : WX P lops.toArray Q K rest n ((d, undef) :: l) own ro) : WX P lops.toArray Q K ((k, i) :: rest) n l own ro := by
  intro a w ha hw
  have hd' : d < n := of_decide_eq_true hd
  have hw1 : ¬ Region.wanted o (yielded lops.toArray a.tmps) = true := by rw [hno a ha]; simp
  simp only [wpX, List.getElem?_toArray, ho]
  cases k with
  | none => intro w' hl; rw [if_neg hw1, hd0]; exact h _ w' (ha.put undef hd') (hw.later hl)
  | some b => dsimp only; rw [if_neg hw1, hd0]; exact h _ w (ha.put undef hd') hw

/-- An operation without a guard. -/
theorem x_val (ho : lops[i]? = some ⟨some d, op, ty, pos, af, none⟩) (hk : k.getD true = true) (hd : decide (d < n) = true) {v : Value} (hv : OpV P n l own ro op ty v)
    (h : WX P lops.toArray Q K rest n ((d, v) :: l) own ro) : WX P lops.toArray Q K ((k, i) :: rest) n l own ro :=
  x_run ho (go_none rfl) rfl hk hd hv h
/-- .. a bool gets a name. -/
theorem x_bool (ho : lops[i]? = some ⟨some d, op, ty, pos, af, none⟩) (hk : k.getD true = true) (hd : decide (d < n) = true) {b : Bool} (hv : OpV P n l own ro op ty (.bool b))
    (h : ∀ c, c = b → WX P lops.toArray Q K rest n ((d, .bool c) :: l) own ro) : WX P lops.toArray Q K ((k, i) :: rest) n l own ro :=
  x_val ho hk hd hv (h b rfl)
/-- A guard that is decided: carried out. -/
theorem x_go {j dj : Nat} {want : Bool} (ho : lops[i]? = some ⟨some d, op, ty, pos, af, some (j, want)⟩) (hj : (lops[j]?).bind (·.dst) = some dj) (hb : l.lookup dj = some (.bool want)) (hk : k.getD true = true) (hd : decide (d < n) = true) {v : Value} (hv : OpV P n l own ro op ty v)
    (h : WX P lops.toArray Q K rest n ((d, v) :: l) own ro) : WX P lops.toArray Q K ((k, i) :: rest) n l own ro :=
  x_run ho (go_some rfl hj hb) rfl hk hd hv h
/-- A guard that is decided: passed over. -/
theorem x_no {j dj : Nat} {want b : Bool} (ho : lops[i]? = some ⟨some d, op, ty, pos, af, some (j, want)⟩) (hj : (lops[j]?).bind (·.dst) = some dj) (hb : l.lookup dj = some (.bool b)) (hne : (b == want) = false) (hd : decide (d < n) = true)
    (h : WX P lops.toArray Q K rest n ((d, undef) :: l) own ro) : WX P lops.toArray Q K ((k, i) :: rest) n l own ro :=
  x_pass ho (no_some rfl hj hb hne) rfl hd h
/-- What a guarded operation leaves: the guards, outermost first. -/
def gvl : List (Bool × Bool) → Value → Value
  | [], v => v
  | (b, w) :: gs, v => if b = w then gvl gs v else undef
def allg : List (Bool × Bool) → Prop
  | [] => True
  | (b, w) :: gs => b = w ∧ allg gs
theorem gvl_nil (v : Value) : gvl [] v = v := rfl
theorem gvl_t (gs : List (Bool × Bool)) (v : Value) : gvl ((true, true) :: gs) v = gvl gs v := rfl
theorem gvl_f (gs : List (Bool × Bool)) (v : Value) : gvl ((false, false) :: gs) v = gvl gs v := rfl
theorem gvl_yes : ∀ {gs : List (Bool × Bool)} {v : Value}, allg gs → gvl gs v = v
  | [], _, _ => rfl
  | (b, w) :: gs, v, h => by simp only [gvl, h.1, if_true]; exact gvl_yes h.2
theorem gvl_no : ∀ {gs : List (Bool × Bool)} {v : Value}, ¬ allg gs → gvl gs v = undef
  | [], _, h => absurd trivial h
  | (b, w) :: gs, v, h => by
    simp only [gvl]
    split
    · rename_i hb; exact gvl_no fun hg => h ⟨hb, hg⟩
    · rfl
theorem allg_snoc : ∀ {gs : List (Bool × Bool)} {b w : Bool}, allg (gs ++ [(b, w)]) ↔ allg gs ∧ b = w
  | [], b, w => by simp [allg]
  | (c, x) :: gs, b, w => by simp only [List.cons_append, allg, allg_snoc, and_assoc]
/-- A guard of guards: carried out or not. -/
theorem go_gs {o : Oper} {j dj : Nat} {want b : Bool} {gs : List (Bool × Bool)} (hg : o.guard = some (j, want)) (hj : (lops[j]?).bind (·.dst) = some dj) (hb : l.lookup dj = some (gvl gs (.bool b))) (h : allg gs) (hw : b = want) : Go_ lops n l o :=
  fun a ha => by rw [gvl_yes h] at hb; subst hw; exact go_some hg hj hb a ha
theorem no_gs {o : Oper} {j dj : Nat} {want b : Bool} {gs : List (Bool × Bool)} (hg : o.guard = some (j, want)) (hj : (lops[j]?).bind (·.dst) = some dj) (hb : l.lookup dj = some (gvl gs (.bool b))) (h : ¬ (allg gs ∧ b = want)) : No_ lops n l o := by
  by_cases hgs : allg gs
  · rw [gvl_yes hgs] at hb
    exact no_some hg hj hb (by simpa using fun e => h ⟨hgs, e⟩)
  · rw [gvl_no hgs] at hb
    intro a ha
    simp only [Region.wanted, hg, yielded, List.getElem?_toArray, hj, Option.bind_some, ha.at_ _ _ hb, undef]
    cases want <;> rfl
/-- A guarded operation. -/
theorem x_if {j dj : Nat} {want b : Bool} (gs : List (Bool × Bool)) (ho : lops[i]? = some ⟨some d, op, ty, pos, af, some (j, want)⟩) (hj : (lops[j]?).bind (·.dst) = some dj) (hb : l.lookup dj = some (gvl gs (.bool b))) (hk : k.getD true = true) (hd : decide (d < n) = true) {v : Value}
    (hv : allg (gs ++ [(b, want)]) → OpV P n l own ro op ty v)
    (h : WX P lops.toArray Q K rest n ((d, gvl (gs ++ [(b, want)]) v) :: l) own ro) : WX P lops.toArray Q K ((k, i) :: rest) n l own ro := by
  by_cases hg : allg (gs ++ [(b, want)])
  · obtain ⟨h1, h2⟩ := allg_snoc.1 hg
    refine x_run ho (go_gs rfl hj hb h1 h2) rfl hk hd (hv hg) ?_
    rwa [gvl_yes hg] at h
  · refine x_pass ho (no_gs rfl hj hb fun h => hg (allg_snoc.2 h)) rfl hd ?_
    rwa [gvl_no hg] at h
/-- .. a bool gets a name. -/
theorem x_ifb {j dj : Nat} {want b c : Bool} (gs : List (Bool × Bool)) (ho : lops[i]? = some ⟨some d, op, ty, pos, af, some (j, want)⟩) (hj : (lops[j]?).bind (·.dst) = some dj) (hb : l.lookup dj = some (gvl gs (.bool b))) (hk : k.getD true = true) (hd : decide (d < n) = true)
    (hv : allg (gs ++ [(b, want)]) → OpV P n l own ro op ty (.bool c))
    (h : ∀ c', c' = c → WX P lops.toArray Q K rest n ((d, gvl (gs ++ [(b, want)]) (.bool c')) :: l) own ro) : WX P lops.toArray Q K ((k, i) :: rest) n l own ro :=
  x_if gs ho hj hb hk hd hv (h c rfl)

theorem run_enter {f : FuncId} {fn : Func} (hf : P.funcs[f]? = some fn) (hbody : (!(fn.name == "runtime.NumGoroutine") && fn.body.isSome) = true) (args : Array Value) (w : World) :
    (callFunc f args).run P w = .ok (.enter f args) w := by
  simp only [Bool.and_eq_true, Bool.not_eq_true'] at hbody
  obtain ⟨h1, h2⟩ := hbody
  have h1' : ¬ fn.name = "runtime.NumGoroutine" := by simpa using h1
  have h3 : ¬ fn.body = none := by intro h; simp [h] at h2
  simp [callFunc, hf, h1', h3]

theorem run_callv {a : Act} {o : Oper} {w : World} {f : FuncId} {fn : Func} {xs : Array Operand} {tys : Array TypeId} {c : Operand} {vs : List Value} {cap : Array Value} {fst : Array Value}
    (ho : o.op = .call ⟨.value c, xs, tys⟩) (ha : FH n l a) (hcal : ev l c = some (.func (.func f) fst cap)) (hf : P.funcs[f]? = some fn) (hbody : (!(fn.name == "runtime.NumGoroutine") && fn.body.isSome) = true) (hx : evs l xs.toList = some vs) :
    (execOp a.eval o).run P w = .ok (.enter f (fst ++ vs.toArray ++ cap)) w := by
  have hargs : xs.map a.eval = vs.toArray := by
    have := ha.evals hx
    rw [← this, ← Array.toList_map]
  simp [execOp, ho, resolve, hargs, ha.eval hcal, Deferred.ofValue, invoke, run_enter hf hbody, Array.append_assoc]

/-- A call that leaves a later world and whose result is known. -/
theorem x_callv_core {o : Oper} {f : FuncId} {fn : Func} {xs : Array Operand} {tys : Array TypeId} {c : Operand} {vs : List Value} {fst cap : Array Value} (ho : lops[i]? = some o) (hgo : Go_ lops n l o) (hop : o.op = .call ⟨.value c, xs, tys⟩) (hd0 : o.dst = some d) (hk : k.getD true = true) (hd : decide (d < n) = true)
    (hcal : ev l c = some (.func (.func f) fst cap)) (hf : P.funcs[f]? = some fn) (hbody : (!(fn.name == "runtime.NumGoroutine") && fn.body.isSome) = true) (hx : evs l xs.toList = some vs) {v : Value}
    (hc : ∀ w, Mem w own ro → Calls P f (fst ++ vs.toArray ++ cap) w fun e w' => e = .returned v ∧ Later w w')
    (h : WX P lops.toArray Q K rest n ((d, v) :: l) own ro) : WX P lops.toArray Q K ((k, i) :: rest) n l own ro := by
  intro a w ha hw
  have hd' : d < n := of_decide_eq_true hd
  have hw1 := hgo a ha
  simp only [wpX, List.getElem?_toArray, ho]
  cases k with
  | none =>
    intro w' hl
    rw [if_pos hw1]
    unfold Oper.wp
    rw [run_callv hop ha hcal hf hbody hx]
    refine Calls.mono (hc w' (hw.later hl)) fun e w2 he => ?_
    obtain ⟨rfl, hl2⟩ := he
    show wpX P lops.toArray Q K rest (a.put o.dst v) w2
    rw [hd0]
    exact h _ w2 (ha.put v hd') ((hw.later hl).later hl2)
  | some b =>
    simp at hk
    subst hk
    dsimp only
    rw [if_pos hw1]
    refine ⟨v, fun w' hl => ?_, by rw [hd0]; exact h _ w (ha.put v hd') hw⟩
    unfold fltAt
    rw [run_callv hop ha hcal hf hbody hx]
    exact ⟨rfl, hc w' (hw.later hl)⟩
theorem x_callv {f : FuncId} {fn : Func} {xs : Array Operand} {tys : Array TypeId} {vs : List Value} (ho : lops[i]? = some ⟨some d, .call ⟨.value (.func f), xs, tys⟩, ty, pos, af, none⟩) (hk : k.getD true = true) (hd : decide (d < n) = true)
    (hf : P.funcs[f]? = some fn) (hbody : (!(fn.name == "runtime.NumGoroutine") && fn.body.isSome) = true) (hx : evs l xs.toList = some vs) {v : Value}
    (hc : ∀ w, Mem w own ro → Calls P f vs.toArray w fun e w' => e = .returned v ∧ Later w w')
    (h : WX P lops.toArray Q K rest n ((d, v) :: l) own ro) : WX P lops.toArray Q K ((k, i) :: rest) n l own ro :=
  x_callv_core (fst := #[]) (cap := #[]) ho (go_none rfl) rfl rfl hk hd rfl hf hbody hx (by simpa using hc) h
/-- .. a bool: it gets a name. -/
theorem x_callb {f : FuncId} {fn : Func} {xs : Array Operand} {tys : Array TypeId} {vs : List Value} (ho : lops[i]? = some ⟨some d, .call ⟨.value (.func f), xs, tys⟩, ty, pos, af, none⟩) (hk : k.getD true = true) (hd : decide (d < n) = true)
    (hf : P.funcs[f]? = some fn) (hbody : (!(fn.name == "runtime.NumGoroutine") && fn.body.isSome) = true) (hx : evs l xs.toList = some vs) {b : Bool}
    (hc : ∀ w, Mem w own ro → Calls P f vs.toArray w fun e w' => e = .returned (.bool b) ∧ Later w w')
    (h : ∀ c, c = b → WX P lops.toArray Q K rest n ((d, .bool c) :: l) own ro) : WX P lops.toArray Q K ((k, i) :: rest) n l own ro :=
  x_callv ho hk hd hf hbody hx hc (h b rfl)
/-- A guarded call whose result is known where the guard holds. -/
theorem x_call_if {j dj : Nat} {want b : Bool} (gs : List (Bool × Bool)) {f : FuncId} {fn : Func} {xs : Array Operand} {tys : Array TypeId} (ho : lops[i]? = some ⟨some d, .call ⟨.value (.func f), xs, tys⟩, ty, pos, af, some (j, want)⟩) (hj : (lops[j]?).bind (·.dst) = some dj) (hb : l.lookup dj = some (gvl gs (.bool b))) (hk : k.getD true = true) (hd : decide (d < n) = true)
    (hf : P.funcs[f]? = some fn) (hbody : (!(fn.name == "runtime.NumGoroutine") && fn.body.isSome) = true) {v : Value}
    (hc : allg (gs ++ [(b, want)]) → ∃ vs, evs l xs.toList = some vs ∧ ∀ w, Mem w own ro → Calls P f vs.toArray w fun e w' => e = .returned v ∧ Later w w')
    (h : WX P lops.toArray Q K rest n ((d, gvl (gs ++ [(b, want)]) v) :: l) own ro) : WX P lops.toArray Q K ((k, i) :: rest) n l own ro := by
  by_cases hg : allg (gs ++ [(b, want)])
  · obtain ⟨h1, h2⟩ := allg_snoc.1 hg
    obtain ⟨vs, hx, hc⟩ := hc hg
    refine x_callv_core (fst := #[]) (cap := #[]) ho (go_gs rfl hj hb h1 h2) rfl rfl hk hd rfl hf hbody hx (by simpa using hc) ?_
    rwa [gvl_yes hg] at h
  · refine x_pass ho (no_gs rfl hj hb fun h => hg (allg_snoc.2 h)) rfl hd ?_
    rwa [gvl_no hg] at h
theorem x_call_ifb {j dj : Nat} {want b : Bool} (gs : List (Bool × Bool)) {f : FuncId} {fn : Func} {xs : Array Operand} {tys : Array TypeId} (ho : lops[i]? = some ⟨some d, .call ⟨.value (.func f), xs, tys⟩, ty, pos, af, some (j, want)⟩) (hj : (lops[j]?).bind (·.dst) = some dj) (hb : l.lookup dj = some (gvl gs (.bool b))) (hk : k.getD true = true) (hd : decide (d < n) = true)
    (hf : P.funcs[f]? = some fn) (hbody : (!(fn.name == "runtime.NumGoroutine") && fn.body.isSome) = true) {c : Bool}
    (hc : allg (gs ++ [(b, want)]) → ∃ vs, evs l xs.toList = some vs ∧ ∀ w, Mem w own ro → Calls P f vs.toArray w fun e w' => e = .returned (.bool c) ∧ Later w w')
    (h : ∀ c', c' = c → WX P lops.toArray Q K rest n ((d, gvl (gs ++ [(b, want)]) (.bool c')) :: l) own ro) : WX P lops.toArray Q K ((k, i) :: rest) n l own ro :=
  x_call_if gs ho hj hb hk hd hf hbody hc (h c rfl)

/-- A call that leaves a later world: its result and that world get names. -/
theorem x_call_core {o : Oper} {f : FuncId} {fn : Func} {xs : Array Operand} {tys : Array TypeId} {c : Operand} {vs : List Value} {fst cap : Array Value} (ho : lops[i]? = some o) (hgo : Go_ lops n l o) (hop : o.op = .call ⟨.value c, xs, tys⟩) (hd0 : o.dst = some d) (hk : (k == some true) = false) (hd : decide (d < n) = true)
    (hcal : ev l c = some (.func (.func f) fst cap)) (hf : P.funcs[f]? = some fn) (hbody : (!(fn.name == "runtime.NumGoroutine") && fn.body.isSome) = true) (hx : evs l xs.toList = some vs) {R : Value → World → World → Prop}
    (hc : ∀ w, Mem w own ro → Calls P f (fst ++ vs.toArray ++ cap) w fun e w' => ∃ v, e = .returned v ∧ Later w w' ∧ R v w w')
    (h : ∀ v w1 w2, Mem w1 own ro → Later w1 w2 → R v w1 w2 → WX P lops.toArray Q K rest n ((d, v) :: l) own ((w2, notOwn own) :: ro)) : WX P lops.toArray Q K ((k, i) :: rest) n l own ro := by
  intro a w ha hw
  have hd' : d < n := of_decide_eq_true hd
  have hw1 := hgo a ha
  simp only [wpX, List.getElem?_toArray, ho]
  have key : ∀ w', Later w w' → Calls P f (fst ++ vs.toArray ++ cap) w' fun e w'' => ∃ v, e = .returned v ∧ Later w' w'' ∧ wpX P lops.toArray Q K rest (a.put o.dst v) w'' := fun w' hl =>
    Calls.mono (hc w' (hw.later hl)) fun e w2 ⟨v, he, hl2, hr⟩ => ⟨v, he, hl2, by
      rw [hd0]
      exact h v w' w2 (hw.later hl) hl2 hr _ w2 (ha.put v hd') ((hw.later hl).later hl2).snap⟩
  cases k with
  | none =>
    intro w' hl
    rw [if_pos hw1]
    unfold Oper.wp
    rw [run_callv hop ha hcal hf hbody hx]
    refine Calls.mono (key w' hl) fun e w2 he => ?_
    obtain ⟨v, rfl, hl2, hx2⟩ := he
    exact hx2
  | some b =>
    have : b = false := by cases b <;> simp_all
    subst this
    dsimp only
    rw [if_pos hw1]
    intro w' hl
    unfold Oper.wp
    rw [run_callv hop ha hcal hf hbody hx]
    refine Calls.mono (key w' hl) fun e w2 he => ?_
    obtain ⟨v, rfl, hl2, hx2⟩ := he
    exact ⟨hl2, hx2⟩
theorem x_call {f : FuncId} {fn : Func} {xs : Array Operand} {tys : Array TypeId} {vs : List Value} (ho : lops[i]? = some ⟨some d, .call ⟨.value (.func f), xs, tys⟩, ty, pos, af, none⟩) (hk : (k == some true) = false) (hd : decide (d < n) = true)
    (hf : P.funcs[f]? = some fn) (hbody : (!(fn.name == "runtime.NumGoroutine") && fn.body.isSome) = true) (hx : evs l xs.toList = some vs) {R : Value → World → World → Prop}
    (hc : ∀ w, Mem w own ro → Calls P f vs.toArray w fun e w' => ∃ v, e = .returned v ∧ Later w w' ∧ R v w w')
    (h : ∀ v w1 w2, Mem w1 own ro → Later w1 w2 → R v w1 w2 → WX P lops.toArray Q K rest n ((d, v) :: l) own ((w2, notOwn own) :: ro)) : WX P lops.toArray Q K ((k, i) :: rest) n l own ro :=
  x_call_core (fst := #[]) (cap := #[]) ho (go_none rfl) rfl rfl hk hd rfl hf hbody hx (by simpa using hc) h

/-- A call of a function value. -/
theorem x_clv {f : FuncId} {fn : Func} {xs : Array Operand} {tys : Array TypeId} {c : Operand} {vs : List Value} {cap : Array Value} (ho : lops[i]? = some ⟨some d, .call ⟨.value c, xs, tys⟩, ty, pos, af, none⟩) (hk : k.getD true = true) (hd : decide (d < n) = true)
    (hcal : ev l c = some (.func (.func f) #[] cap)) (hf : P.funcs[f]? = some fn) (hbody : (!(fn.name == "runtime.NumGoroutine") && fn.body.isSome) = true) (hx : evs l xs.toList = some vs) {v : Value}
    (hc : ∀ w, Mem w own ro → Calls P f (vs.toArray ++ cap) w fun e w' => e = .returned v ∧ Later w w')
    (h : WX P lops.toArray Q K rest n ((d, v) :: l) own ro) : WX P lops.toArray Q K ((k, i) :: rest) n l own ro :=
  x_callv_core (fst := #[]) ho (go_none rfl) rfl rfl hk hd hcal hf hbody hx (by simpa using hc) h
theorem x_clb {f : FuncId} {fn : Func} {xs : Array Operand} {tys : Array TypeId} {c : Operand} {vs : List Value} {cap : Array Value} (ho : lops[i]? = some ⟨some d, .call ⟨.value c, xs, tys⟩, ty, pos, af, none⟩) (hk : k.getD true = true) (hd : decide (d < n) = true)
    (hcal : ev l c = some (.func (.func f) #[] cap)) (hf : P.funcs[f]? = some fn) (hbody : (!(fn.name == "runtime.NumGoroutine") && fn.body.isSome) = true) (hx : evs l xs.toList = some vs) {b : Bool}
    (hc : ∀ w, Mem w own ro → Calls P f (vs.toArray ++ cap) w fun e w' => e = .returned (.bool b) ∧ Later w w')
    (h : ∀ c, c = b → WX P lops.toArray Q K rest n ((d, .bool c) :: l) own ro) : WX P lops.toArray Q K ((k, i) :: rest) n l own ro :=
  x_clv ho hk hd hcal hf hbody hx hc (h b rfl)
/-- .. guarded. -/
theorem x_cl_ifb {j dj : Nat} {want b : Bool} (gs : List (Bool × Bool)) {f : FuncId} {fn : Func} {xs : Array Operand} {tys : Array TypeId} {c : Operand} (ho : lops[i]? = some ⟨some d, .call ⟨.value c, xs, tys⟩, ty, pos, af, some (j, want)⟩) (hj : (lops[j]?).bind (·.dst) = some dj) (hb : l.lookup dj = some (gvl gs (.bool b))) (hk : k.getD true = true) (hd : decide (d < n) = true)
    (hf : P.funcs[f]? = some fn) (hbody : (!(fn.name == "runtime.NumGoroutine") && fn.body.isSome) = true) {b' : Bool}
    (hc : allg (gs ++ [(b, want)]) → ∃ vs cap, ev l c = some (.func (.func f) #[] cap) ∧ evs l xs.toList = some vs ∧ ∀ w, Mem w own ro → Calls P f (vs.toArray ++ cap) w fun e w' => e = .returned (.bool b') ∧ Later w w')
    (h : ∀ c', c' = b' → WX P lops.toArray Q K rest n ((d, gvl (gs ++ [(b, want)]) (.bool c')) :: l) own ro) : WX P lops.toArray Q K ((k, i) :: rest) n l own ro := by
  have h := h b' rfl
  by_cases hg : allg (gs ++ [(b, want)])
  · obtain ⟨h1, h2⟩ := allg_snoc.1 hg
    obtain ⟨vs, cap, hcal, hx, hc⟩ := hc hg
    refine x_callv_core (fst := #[]) ho (go_gs rfl hj hb h1 h2) rfl rfl hk hd hcal hf hbody hx (by simpa using hc) ?_
    rwa [gvl_yes hg] at h
  · refine x_pass ho (no_gs rfl hj hb fun h => hg (allg_snoc.2 h)) rfl hd ?_
    rwa [gvl_no hg] at h

/-! ## Values -/
theorem v_move {x : Operand} {v : Value} (hx : ev l x = some v) : OpV P n l own ro (.move x) ty v := by
  intro a w o ha _ ho _
  simp [execOp, ho, ha.eval hx]
theorem v_assign {x : Operand} {v : Value} (hx : ev l x = some v) : OpV P n l own ro (.assign x) ty v := by
  intro a w o ha _ ho _
  simp [execOp, ho, ha.eval hx]
theorem v_pick {c x y : Operand} {b : Bool} {v : Value} (hc : ev l c = some (.bool b)) (hv : (if b then ev l x else ev l y) = some v) : OpV P n l own ro (.pick c x y) ty v := by
  intro a w o ha _ ho _
  cases b
  · simp [execOp, ho, ha.eval hc, ha.eval (by simpa using hv : ev l y = some v), asBool]
  · simp [execOp, ho, ha.eval hc, ha.eval (by simpa using hv : ev l x = some v), asBool]
/-- 'g && v' -/
theorem v_and {c x : Operand} {g v : Bool} (hc : ev l c = some (.bool g)) (hx : ev l x = some (gvl [(g, true)] (.bool v))) : OpV P n l own ro (.pick c x (.const (.bool false))) ty (.bool (g && v)) := by
  refine v_pick hc ?_
  cases g
  · rfl
  · simpa [gvl] using hx
/-- 'g || v' -/
theorem v_or {c x : Operand} {g v : Bool} (hc : ev l c = some (.bool g)) (hx : ev l x = some (gvl [(g, false)] (.bool v))) : OpV P n l own ro (.pick c (.const (.bool true)) x) ty (.bool (g || v)) := by
  refine v_pick hc ?_
  cases g
  · simpa [gvl] using hx
  · rfl
theorem v_func {f : FuncId} {cs : List Operand} {vs : List Value} (hx : evs l cs = some vs) : OpV P n l own ro (.makeFunc (.func f) #[] cs.toArray) ty (.func (.func f) #[] vs.toArray) := by
  intro a w o ha _ ho _
  have := ha.evals hx
  simp [execOp, ho, Instr.makeFunc, ← this]
theorem v_not {x : Operand} {b : Bool} {t : TypeId} (hx : ev l x = some (.bool b)) : OpV P n l own ro (.unOp .not t x) ty (.bool (!b)) := by
  intro a w o ha _ ho _
  simp [execOp, ho, ha.eval hx, Op.unary]
theorem v_len_str {x : Operand} {t : TypeId} {s : ByteArray} (ht : P.underlying t = some .string) (hx : ev l x = some (.string s)) : OpV P n l own ro (.call ⟨.builtin .len, #[x], #[t]⟩) ty (.int .i64 s.size) := by
  intro a w o ha _ ho _
  simp [execOp, ho, resolve, invoke, builtin, ha.eval hx, Builtin.len_, run_underlying ht, goInt]
theorem v_len_slice {x : Operand} {t e : TypeId} {A : Option Addr} {m c : Nat} (ht : P.underlying t = some (.slice e)) (hx : ev l x = some (.slice A m c)) : OpV P n l own ro (.call ⟨.builtin .len, #[x], #[t]⟩) ty (.int .i64 m) := by
  intro a w o ha _ ho _
  simp [execOp, ho, resolve, invoke, builtin, ha.eval hx, Builtin.len_, run_underlying ht, goInt]
end
end Go.PK

/- Of the proofs of YtbamklefagghcaaGreatDoor; see NOTES.md. -/
namespace Go.PK
open Go Go.RowKit
set_option linter.unusedVariables false

section
variable {P : Program} {n : Nat} {l : List (Nat × Value)} {own : List (Nat × Obj)} {ro : List Snap} {ty : TypeId} {x y : Operand} {t t' : TypeId} {k k' : IntKind} {a b : Int}

/-! ## Integers -/
theorem v_add (hx : ev l x = some (.int k a)) (hy : ev l y = some (.int k b)) : OpV P n l own ro (.binOp .add t x y t') ty (.int k (k.wrap (a + b))) := by
  intro A w o ha _ ho _
  simp [execOp, ho, ha.eval hx, ha.eval hy, eqGuard, binOp, Op.intArith]
theorem v_sub (hx : ev l x = some (.int k a)) (hy : ev l y = some (.int k b)) : OpV P n l own ro (.binOp .sub t x y t') ty (.int k (k.wrap (a - b))) := by
  intro A w o ha _ ho _
  simp [execOp, ho, ha.eval hx, ha.eval hy, eqGuard, binOp, Op.intArith]
theorem v_mul (hx : ev l x = some (.int k a)) (hy : ev l y = some (.int k b)) : OpV P n l own ro (.binOp .mul t x y t') ty (.int k (k.wrap (a * b))) := by
  intro A w o ha _ ho _
  simp [execOp, ho, ha.eval hx, ha.eval hy, eqGuard, binOp, Op.intArith]
theorem v_quo (hx : ev l x = some (.int k a)) (hy : ev l y = some (.int k b)) (h0 : b ≠ 0) : OpV P n l own ro (.binOp .quo t x y t') ty (.int k (k.wrap (a.tdiv b))) := by
  intro A w o ha _ ho _
  simp [execOp, ho, ha.eval hx, ha.eval hy, eqGuard, binOp, Op.intDiv, h0]
theorem v_rem (hx : ev l x = some (.int k a)) (hy : ev l y = some (.int k b)) (h0 : b ≠ 0) : OpV P n l own ro (.binOp .rem t x y t') ty (.int k (a.tmod b)) := by
  intro A w o ha _ ho _
  simp [execOp, ho, ha.eval hx, ha.eval hy, eqGuard, binOp, Op.intDiv, h0]
theorem wrap_in {n : Int} (h : -9223372036854775808 ≤ n ∧ n ≤ 9223372036854775807) : IntKind.i64.wrap n = n := by
  rw [IntKind.wrap_i64]; omega
/-- .. where the result fits. -/
theorem v_addi (hx : ev l x = some (.int .i64 a)) (hy : ev l y = some (.int .i64 b)) {c : Int} (hc : a + b = c) (h : -9223372036854775808 ≤ c ∧ c ≤ 9223372036854775807) : OpV P n l own ro (.binOp .add t x y t') ty (.int .i64 c) := by
  have := v_add (P := P) (n := n) (own := own) (ro := ro) (t := t) (t' := t') (ty := ty) hx hy
  rwa [hc, wrap_in h] at this
theorem v_subi (hx : ev l x = some (.int .i64 a)) (hy : ev l y = some (.int .i64 b)) {c : Int} (hc : a - b = c) (h : -9223372036854775808 ≤ c ∧ c ≤ 9223372036854775807) : OpV P n l own ro (.binOp .sub t x y t') ty (.int .i64 c) := by
  have := v_sub (P := P) (n := n) (own := own) (ro := ro) (t := t) (t' := t') (ty := ty) hx hy
  rwa [hc, wrap_in h] at this
theorem v_muli (hx : ev l x = some (.int .i64 a)) (hy : ev l y = some (.int .i64 b)) {c : Int} (hc : a * b = c) (h : -9223372036854775808 ≤ c ∧ c ≤ 9223372036854775807) : OpV P n l own ro (.binOp .mul t x y t') ty (.int .i64 c) := by
  have := v_mul (P := P) (n := n) (own := own) (ro := ro) (t := t) (t' := t') (ty := ty) hx hy
  rwa [hc, wrap_in h] at this
theorem v_quoi (hx : ev l x = some (.int .i64 a)) (hy : ev l y = some (.int .i64 b)) (h0 : b ≠ 0) {c : Int} (hc : a.tdiv b = c) (h : -9223372036854775808 ≤ c ∧ c ≤ 9223372036854775807) : OpV P n l own ro (.binOp .quo t x y t') ty (.int .i64 c) := by
  have := v_quo (P := P) (n := n) (own := own) (ro := ro) (t := t) (t' := t') (ty := ty) hx hy h0
  rwa [hc, wrap_in h] at this

theorem v_lss (hx : ev l x = some (.int k a)) (hy : ev l y = some (.int k b)) : OpV P n l own ro (.binOp .lss t x y t') ty (.bool (decide (a < b))) := by
  intro A w o ha _ ho _
  simp [execOp, ho, ha.eval hx, ha.eval hy, eqGuard, binOp, Op.intCmp]
theorem v_leq (hx : ev l x = some (.int k a)) (hy : ev l y = some (.int k b)) : OpV P n l own ro (.binOp .leq t x y t') ty (.bool (decide (a ≤ b))) := by
  intro A w o ha _ ho _
  simp [execOp, ho, ha.eval hx, ha.eval hy, eqGuard, binOp, Op.intCmp]
theorem v_gtr (hx : ev l x = some (.int k a)) (hy : ev l y = some (.int k b)) : OpV P n l own ro (.binOp .gtr t x y t') ty (.bool (decide (b < a))) := by
  intro A w o ha _ ho _
  simp [execOp, ho, ha.eval hx, ha.eval hy, eqGuard, binOp, Op.intCmp]
theorem v_geq (hx : ev l x = some (.int k a)) (hy : ev l y = some (.int k b)) : OpV P n l own ro (.binOp .geq t x y t') ty (.bool (decide (b ≤ a))) := by
  intro A w o ha _ ho _
  simp [execOp, ho, ha.eval hx, ha.eval hy, eqGuard, binOp, Op.intCmp]
theorem v_eql (hx : ev l x = some (.int k a)) (hy : ev l y = some (.int k b)) : OpV P n l own ro (.binOp .eql t x y t') ty (.bool (decide (a = b))) := by
  intro A w o ha _ ho _
  simp [execOp, ho, ha.eval hx, ha.eval hy, eqGuard, binOp, Op.intCmp]
  rw [Bool.eq_iff_iff]; simp
theorem v_neq (hx : ev l x = some (.int k a)) (hy : ev l y = some (.int k b)) : OpV P n l own ro (.binOp .neq t x y t') ty (.bool (decide (a ≠ b))) := by
  intro A w o ha _ ho _
  simp [execOp, ho, ha.eval hx, ha.eval hy, eqGuard, binOp, Op.intCmp]
  rw [Bool.eq_iff_iff]; simp
theorem v_conv {td : TypeDesc} (hs : P.underlying t = some td) (hd : P.underlying t' = some (.int k')) (hx : ev l x = some (.int k a)) : OpV P n l own ro (.convert t t' x) ty (.int k' (k'.wrap a)) := by
  intro A w o ha _ ho _
  simp [execOp, ho, ha.eval hx, convert, run_underlying hs, run_underlying hd, Conv.intToInt]

/-! ## Strings -/
variable {s u : ByteArray}
theorem toList_eq {s u : ByteArray} : (s.toList == u.toList) = decide (s = u) := by
  rw [Bool.eq_iff_iff]
  simp only [beq_iff_eq, decide_eq_true_eq]
  constructor
  · intro h
    apply ByteArray.ext
    rw [ByteArray.toList_eq, ByteArray.toList_eq] at h
    exact Array.toList_inj.1 h
  · rintro rfl; rfl
theorem v_seql (hx : ev l x = some (.string s)) (hy : ev l y = some (.string u)) : OpV P n l own ro (.binOp .eql t x y t') ty (.bool (decide (s = u))) := by
  intro A w o ha _ ho _
  simp [execOp, ho, ha.eval hx, ha.eval hy, eqGuard, binOp, Op.stringOp, toList_eq]
theorem v_sneq (hx : ev l x = some (.string s)) (hy : ev l y = some (.string u)) : OpV P n l own ro (.binOp .neq t x y t') ty (.bool (decide (s ≠ u))) := by
  intro A w o ha _ ho _
  simp [execOp, ho, ha.eval hx, ha.eval hy, eqGuard, binOp, Op.stringOp, toList_eq]
theorem v_sadd (hx : ev l x = some (.string s)) (hy : ev l y = some (.string u)) (h : s.size + u.size ≤ 9223372036854775807) : OpV P n l own ro (.binOp .add t x y t') ty (.string (s ++ u)) := by
  intro A w o ha _ ho _
  have := @run_string_add_sum P w s u h
  simp [execOp, ho, ha.eval hx, ha.eval hy, eqGuard, binOp, this]
def byteAt (s : ByteArray) (j : Nat) : UInt8 := s.data.toList.getD j 0
theorem byteAt_eq {s : ByteArray} {j : Nat} (h : j < s.size) : byteAt s j = s[j] := by
  have h2 : j < s.data.toList.length := by simpa using h
  unfold byteAt
  rw [List.getD_eq_getElem?_getD, List.getElem?_eq_getElem h2]
  rfl
theorem v_index {j : Nat} (ht : P.underlying t = some .string) (hx : ev l x = some (.string s)) (hy : ev l y = some (.int k (j : Nat))) (hj : j < s.size) : OpV P n l own ro (.index t x y) ty (.int .u8 (byteAt s j).toNat) := by
  intro A w o ha _ ho _
  have h2 : s[j]? = some s[j] := getElem?_pos s j hj
  rw [byteAt_eq hj]
  simp [execOp, ho, ha.eval hx, ha.eval hy, Instr.index, run_underlying ht, asIntOf, h2]
theorem run_equalIn_bool {p q : Bool} {w : World} (ht : P.underlying t = some .bool) (d : Nat) : (Op.equalIn (d + 1) t (.bool p) (.bool q)).run P w = .ok (p == q) w := by simp [Op.equalIn, run_underlying ht]
theorem run_equal_bool {p q : Bool} {w : World} (ht : P.underlying t = some .bool) : (Op.equal t (.bool p) (.bool q)).run P w = .ok (p == q) w := run_equalIn_bool ht 9999
theorem v_beql {p q : Bool} (hx : ev l x = some (.bool p)) (hy : ev l y = some (.bool q)) (ht : P.underlying t = some .bool) : OpV P n l own ro (.binOp .eql t x y t') ty (.bool (p == q)) := by
  intro A w o ha _ ho _
  simp [execOp, ho, ha.eval hx, ha.eval hy, eqGuard, binOp, run_equal_bool ht]
theorem v_bneq {p q : Bool} (hx : ev l x = some (.bool p)) (hy : ev l y = some (.bool q)) (ht : P.underlying t = some .bool) : OpV P n l own ro (.binOp .neq t x y t') ty (.bool (!(p == q))) := by
  intro A w o ha _ ho _
  simp [execOp, ho, ha.eval hx, ha.eval hy, eqGuard, binOp, run_equal_bool ht]
/-- 's[i:j]' -/
theorem v_cut {i j : Nat} {z : Operand} (ht : P.underlying t = some .string) (hx : ev l x = some (.string s)) (hy : ev l y = some (.int k (i : Nat))) (hz : ev l z = some (.int k' (j : Nat))) (hi : i ≤ j) (hj : j ≤ s.size) :
    OpV P n l own ro (.slice t x (some y) (some z) none) ty (.string (s.extract i j)) := by
  intro A w o ha _ ho _
  have h := @run_slice_string_if P w t s k k' i j ht
  rw [if_pos (by omega), if_pos (by omega)] at h
  simp only [Int.toNat_natCast] at h
  have h2 : (Instr.sliceAt t (.string s) (some (.int k (i : Nat))) (some (.int k' (j : Nat))) none).run P w = .ok (.string (s.extract i j)) w := by
    simp only [Instr.sliceAt, Sem.run_bind, run_underlying ht, Result.andThen_ok, h]
  simp [execOp, ho, ha.eval hx, ha.eval hy, ha.eval hz, h2]
/-- 's[i:]' -/
theorem v_cut_from {i : Nat} (ht : P.underlying t = some .string) (hx : ev l x = some (.string s)) (hy : ev l y = some (.int k (i : Nat))) (hi : i ≤ s.size) :
    OpV P n l own ro (.slice t x (some y) none none) ty (.string (s.extract i s.size)) := by
  intro A w o ha _ ho _
  have h2 : (Instr.sliceAt t (.string s) (some (.int k (i : Nat))) none none).run P w = .ok (.string (s.extract i s.size)) w := by
    simp [Instr.sliceAt, Instr.slice, Instr.sliceBounds, Instr.sliceBound, asIntOf, run_underlying ht, hi]
  simp [execOp, ho, ha.eval hx, ha.eval hy, h2]
/-- 's[:j]' -/
theorem v_cut_to {j : Nat} (ht : P.underlying t = some .string) (hx : ev l x = some (.string s)) (hy : ev l y = some (.int k (j : Nat))) (hj : j ≤ s.size) :
    OpV P n l own ro (.slice t x none (some y) none) ty (.string (s.extract 0 j)) := by
  intro A w o ha _ ho _
  have h2 : (Instr.sliceAt t (.string s) none (some (.int k (j : Nat))) none).run P w = .ok (.string (s.extract 0 j)) w := by
    simp [Instr.sliceAt, Instr.slice, Instr.sliceBounds, Instr.sliceBound, asIntOf, run_underlying ht, hj]
  simp [execOp, ho, ha.eval hx, ha.eval hy, h2]

/-! ## Places -/
/-- 'x.f' of a struct behind a pointer: the place. -/
theorem v_fieldAddr {fs : Array Field} {f : Field} {j m b off off' : Nat} (ht : P.underlying t = some (.struct fs)) (hf : fs[j]? = some f) (hs : (P.info? f.type).map (·.size) = some m) (hm : m ≠ 0) (hx : ev l x = some (.pointer (some ⟨b, off, none⟩))) (ho' : off + f.offset = off') :
    OpV P n l own ro (.fieldAddr t x j) ty (.pointer (some ⟨b, off', none⟩)) := by
  intro A w o ha _ ho _
  obtain ⟨inf, hi, hsz⟩ := Option.map_eq_some_iff.1 hs
  have : (Addr.mk b off none).add f.offset = ⟨b, off', none⟩ := by
    unfold Addr.add
    split
    · simp <;> omega
    · simp [ho']
  simp [execOp, ho, ha.eval hx, Instr.fieldAt, run_underlying ht, hf, Instr.sureAddr, fieldPlace, sizeOf, typeInfo, hi, hsz, hm, this]
/-- 'xs[i]' of a slice: the place. -/
theorem v_indexAddr {e : TypeId} {j m b off len cap off' : Nat} (ht : P.underlying t = some (.slice e)) (hs : (P.info? e).map (·.size) = some m) (hx : ev l x = some (.slice (some ⟨b, off, none⟩) len cap)) (hy : ev l y = some (.int k (j : Nat))) (hj : j < len) (ho' : off + j * m = off') :
    OpV P n l own ro (.indexAddr t x y) ty (.pointer (some ⟨b, off', none⟩)) := by
  intro A w o ha _ ho _
  obtain ⟨inf, hi, hsz⟩ := Option.map_eq_some_iff.1 hs
  have : (Addr.mk b off none).add (j * m) = ⟨b, off', none⟩ := by
    unfold Addr.add
    split
    · simp <;> omega
    · simp [ho']
  simp [execOp, ho, ha.eval hx, ha.eval hy, Instr.indexAt, run_underlying ht, asIntOf, sizeOf, typeInfo, hi, hsz, hj, this]
end
end Go.PK

/- Of the proofs of YtbamklefagghcaaGreatDoor; see NOTES.md. -/
namespace Go.PK
open Go Go.RowKit
set_option linter.unusedVariables false

theorem mk_add (b off j : Nat) : (Addr.mk b off none).add j = ⟨b, off + j, none⟩ := by
  unfold Addr.add
  split
  · subst_vars; rfl
  · rfl
def aggT (d : TypeDesc) : Bool := match d with | .struct _ | .array _ _ => true | _ => false
theorem run_isAgg {P : Program} {w : World} {t : TypeId} {d : TypeDesc} (ht : P.underlying t = some d) : (isAgg t).run P w = .ok (aggT d) w := by
  unfold isAgg aggT
  rw [Sem.run_bind, run_underlying ht w]
  cases d <;> simp
theorem run_sizeOf {P : Program} {w : World} {t : TypeId} {m : Nat} (hs : (P.info? t).map (·.size) = some m) : (sizeOf t).run P w = .ok m w := by
  obtain ⟨inf, hi, hsz⟩ := Option.map_eq_some_iff.1 hs
  simp [sizeOf, typeInfo, hi, hsz]

section
variable {P : Program} {n : Nat} {l : List (Nat × Value)} {own : List (Nat × Obj)} {ro : List Snap} {lops : List Oper} {Q : Exit → Act → World → Prop} {K : Act → World → Prop}
  {rest : List (Option Bool × Nat)} {k : Option Bool} {i d : Nat} {op : Op} {ty : TypeId} {pos : String} {af : Array Edge} {x y : Operand} {t : TypeId} {td : TypeDesc} {b off : Nat}

/-- What a place holds in every world of the state. -/
def At (own : List (Nat × Obj)) (ro : List Snap) (b off : Nat) (v : Value) : Prop := ∀ w, Mem w own ro → w.cell? ⟨b, off, none⟩ = some v
theorem at_own {cs : Array Value} {e : TypeId} {fz : Nat × Nat} {v : Value} (hb : (b, Obj.cells cs e fz) ∈ own) (hv : cs[off]? = some v) : At own ro b off v :=
  fun w hw => (hw.cell_own hb off).trans hv
theorem at_ownL {vs : List Value} {e : TypeId} {fz : Nat × Nat} {v : Value} (hb : (b, Obj.cells vs.toArray e fz) ∈ own) (hv : vs[off]? = some v) : At own ro b off v :=
  at_own hb (by simpa using hv)
theorem at_ro {s : Snap} {v : Value} (hs : s ∈ ro) (hd : s.2 b) (hc : s.1.cell? ⟨b, off, none⟩ = some v) : At own ro b off v :=
  fun w hw => (hw.cell_ro hs (p := ⟨b, off, none⟩) hd (cell_lt (p := ⟨b, off, none⟩) hc)).trans hc
theorem At.more {own' : List (Nat × Obj)} {ro' : List Snap} {v : Value} (h : At own ro b off v) (hm : ∀ w, Mem w own' ro' → Mem w own ro) : At own' ro' b off v := fun w hw => h w (hm w hw)

/-- A variable of one cell is read. -/
theorem v_load {v : Value} (ht : P.underlying t = some td) (hd : aggT td = false) (hx : ev l x = some (.pointer (some ⟨b, off, none⟩))) (hc : At own ro b off v) : OpV P n l own ro (.load t x) ty v := by
  intro A w o ha hw ho _
  simp [execOp, ho, ha.eval hx, Instr.loadAt, Instr.sureAddr, loadVar, run_isAgg ht, hd, hc w hw]
/-- A variable of several cells is read. -/
theorem v_loadN {vs : List Value} (ht : P.underlying t = some td) (hd : aggT td = true) (hs : (P.info? t).map (·.size) = some vs.length) (hx : ev l x = some (.pointer (some ⟨b, off, none⟩))) (hc : ∀ j (hj : j < vs.length), At own ro b (off + j) vs[j]) :
    OpV P n l own ro (.load t x) ty (.agg vs.toArray) := by
  intro A w o ha hw ho _
  have hl : (loadCells ⟨b, off, none⟩ vs.length).run P w = .ok vs.toArray w := run_loadCells_list (P := P) w ⟨b, off, none⟩ vs (fun j v hv => by
    rw [mk_add]
    obtain ⟨hj, rfl⟩ := List.getElem?_eq_some_iff.1 hv
    exact hc j hj w hw)
  simp [execOp, ho, ha.eval hx, Instr.loadAt, Instr.sureAddr, loadVar, run_isAgg ht, hd, run_sizeOf hs, hl]
/-- .. a whole block of the call's own. -/
theorem v_load_blk {cs : Array Value} {e : TypeId} {fz : Nat × Nat} (ht : P.underlying t = some td) (hd : aggT td = true) (hx : ev l x = some (.pointer (some ⟨b, 0, none⟩))) (hb : (b, Obj.cells cs e fz) ∈ own) (hs : (P.info? t).map (·.size) = some cs.size) :
    OpV P n l own ro (.load t x) ty (.agg cs) := by
  intro A w o ha hw ho _
  have := run_loadVar_row w b e t cs fz td (hw.own_at _ hb) ht (by cases td <;> simp_all [aggT]) hs
  simp [execOp, ho, ha.eval hx, Instr.loadAt, Instr.sureAddr, this]

/-- An operation that makes one block. -/
theorem x_new {o : Oper} (ho : lops[i]? = some o) (hgo : Go_ lops n l o) (hd0 : o.dst = some d) (hk : (k == some true) = false) (hd : decide (d < n) = true) {ob : Obj} {f : Nat → Value}
    (hr : ∀ a w, FH n l a → Mem w own ro → (execOp a.eval o).run P w = .ok (.value (f w.heap.size)) (w.alloc ob))
    (h : ∀ b, WX P lops.toArray Q K rest n ((d, f b) :: l) ((b, ob) :: own) ro) : WX P lops.toArray Q K ((k, i) :: rest) n l own ro := by
  intro a w ha hw
  have hd' : d < n := of_decide_eq_true hd
  have hw1 := hgo a ha
  simp only [wpX, List.getElem?_toArray, ho]
  have key : ∀ w', Later w w' → wpX P lops.toArray Q K rest (a.put o.dst (f w'.heap.size)) (w'.alloc ob) := fun w' hl => by
    rw [hd0]
    exact h _ _ _ (ha.put _ hd') ((hw.later hl).new ob)
  cases k with
  | none =>
    intro w' hl
    rw [if_pos hw1]
    unfold Oper.wp
    rw [hr a w' ha (hw.later hl)]
    exact key w' hl
  | some b =>
    have : b = false := by cases b <;> simp_all
    subst this
    dsimp only
    rw [if_pos hw1]
    intro w' hl
    unfold Oper.wp
    rw [hr a w' ha (hw.later hl)]
    exact ⟨Later.alloc _ _, key w' hl⟩
theorem run_zeroValue {w : World} {e : TypeId} {z : Value} (hz : (P.info? e).bind (·.zero) = some z) : (zeroValue e).run P w = .ok z w := by
  cases hi : P.info? e with
  | none => simp [hi] at hz
  | some inf =>
    have : inf.zero = some z := by simpa [hi] using hz
    simp [zeroValue, typeInfo, hi, this]
/-- A new variable. -/
theorem x_alloc {z : Value} {e : TypeId} (ho : lops[i]? = some ⟨some d, .alloc e, ty, pos, af, none⟩) (hk : (k == some true) = false) (hd : decide (d < n) = true)
    (hz : (P.info? e).bind (·.zero) = some z)
    (h : ∀ b, WX P lops.toArray Q K rest n ((d, .pointer (some ⟨b, 0, none⟩)) :: l) ((b, .cells z.cells e) :: own) ro) : WX P lops.toArray Q K ((k, i) :: rest) n l own ro :=
  x_new (f := fun b => .pointer (some ⟨b, 0, none⟩)) ho (go_none rfl) rfl hk hd (fun a w ha hw => by
    simp [execOp, Instr.alloc, run_zeroValue hz, newVar, newRow]) h
/-- A new variable with a value. -/
theorem x_box {v : Value} {e : TypeId} (ho : lops[i]? = some ⟨some d, .box e x, ty, pos, af, none⟩) (hk : (k == some true) = false) (hd : decide (d < n) = true) (hx : ev l x = some v)
    (h : ∀ b, WX P lops.toArray Q K rest n ((d, .pointer (some ⟨b, 0, none⟩)) :: l) ((b, .cells v.cells e) :: own) ro) : WX P lops.toArray Q K ((k, i) :: rest) n l own ro :=
  x_new (f := fun b => .pointer (some ⟨b, 0, none⟩)) ho (go_none rfl) rfl hk hd (fun a w ha hw => by
    simp [execOp, Instr.box, newVar, newRow, ha.eval hx]) h
def evp (l : List (Nat × Value)) : List (Nat × Operand) → Option (List (Nat × Value))
  | [] => some []
  | (j, x) :: r => match ev l x, evp l r with
    | some v, some vs => some ((j, v) :: vs)
    | _, _ => none
theorem FH.evps {a : Act} (h : FH n l a) : ∀ {r : List (Nat × Operand)} {vs : List (Nat × Value)}, evp l r = some vs → r.map (fun p => (p.1, a.eval p.2)) = vs
  | [], vs, hx => by simp [evp] at hx; simp [hx]
  | (j, x) :: r, vs, hx => by
    simp only [evp] at hx
    split at hx
    · rename_i v us hv hus
      cases hx
      simp [h.eval hv, h.evps hus]
    · cases hx
/-- A struct that is written out. -/
theorem v_build {parts : List (Nat × Operand)} {vs : List (Nat × Value)} {fs : Array Field} {z : Value} {cs : Array Value} {places : Array (Nat × Nat)} (ht : P.underlying t = some (.struct fs)) (hz : (P.info? t).bind (·.zero) = some z)
    (hp : fs.toList.map (fun f => ((P.info? f.type).map fun j => (f.offset, j.size))) = places.toList.map some) (hx : evp l parts = some vs) (hf : Instr.fill (places[·]?) z.cells vs = some cs) :
    OpV P n l own ro (.build t parts.toArray) ty (.agg cs) := by
  intro A w o ha hw ho _
  have hm : ∀ (fs : List Field) (ps : List (Nat × Nat)), fs.map (fun f => ((P.info? f.type).map fun j => (f.offset, j.size))) = ps.map some →
      (fs.mapM fun f => do pure (f.offset, ← sizeOf f.type) : Sem (List (Nat × Nat))).run P w = .ok ps w := by
    intro fs
    induction fs with
    | nil => intro ps hps; cases ps with
      | nil => simp
      | cons _ _ => simp at hps
    | cons f fs ih => intro ps hps; cases ps with
      | nil => simp at hps
      | cons p ps =>
        simp only [List.map_cons, List.cons.injEq] at hps
        obtain ⟨h1, h2⟩ := hps
        cases hi : P.info? f.type with
        | none => simp [hi] at h1
        | some inf =>
          simp [hi] at h1
          have ih2 := ih ps h2
          simp only [List.mapM_cons, Sem.run_bind, run_sizeOf (P := P) (w := w) (t := f.type) (m := inf.size) (by simp [hi]), Result.andThen_ok, Sem.run_pure, h1]
          rw [ih2]
          simp
  have hm2 : (fs.mapM fun f => do pure (f.offset, ← sizeOf f.type) : Sem (Array (Nat × Nat))).run P w = .ok places w := by
    rw [Array.mapM_eq_mapM_toList]
    have := hm fs.toList places.toList hp
    simp only [Sem.run_bind, map_eq_pure_bind, this, Result.andThen_ok, Sem.run_pure]
  have hparts : (parts.toArray.map fun (i, x) => (i, A.eval x)).toList = vs := by
    rw [Array.toList_map]; exact ha.evps hx
  simp only [execOp, ho, Instr.build, Sem.run_bind, run_zeroValue hz, Result.andThen_ok, run_underlying ht, hm2, hparts, hf, Sem.run_pure]
/-- A field of one cell of a struct value. -/
theorem v_field {fs : Array Field} {f : Field} {j : Nat} {cs : Array Value} {v : Value} {fd : TypeDesc} (ht : P.underlying t = some (.struct fs)) (hf : fs[j]? = some f) (hfd : P.underlying f.type = some fd) (hd : aggT fd = false) (hx : ev l x = some (.agg cs)) (hv : cs[f.offset]? = some v) :
    OpV P n l own ro (.field t x j) ty v := by
  intro A w o ha hw ho _
  simp [execOp, ho, ha.eval hx, Instr.field, run_underlying ht, hf, asAgg, part, run_isAgg hfd, hd, hv]
/-- A slice that is written out. -/
theorem x_buildSlice {parts : List (Nat × Operand)} {vs : List (Nat × Value)} {e : TypeId} {z : Value} {cs : Array Value} {len m : Nat} (ho : lops[i]? = some ⟨some d, .buildSlice t len parts.toArray, ty, pos, af, none⟩) (hk : (k == some true) = false) (hd : decide (d < n) = true)
    (ht : P.underlying t = some (.slice e)) (hs : (P.info? e).map (·.size) = some m) (hz : (P.info? e).bind (·.zero) = some z) (hlen : (decide (len * m ≤ 2 ^ 24) && decide (0 < len * m)) = true) (hx : evp l parts = some vs)
    (hf : Instr.fill (fun j => some (j * m, m)) ((Array.range (len * m)).map (z.cells[· % z.cells.size]!)) vs = some cs)
    (h : ∀ b, WX P lops.toArray Q K rest n ((d, .slice (some ⟨b, 0, none⟩) len len) :: l) ((b, .cells cs e) :: own) ro) : WX P lops.toArray Q K ((k, i) :: rest) n l own ro :=
  x_new (f := fun b => .slice (some ⟨b, 0, none⟩) len len) ho (go_none rfl) rfl hk hd (fun A w ha hw => by
    have hparts : (parts.toArray.map fun (i, x) => (i, A.eval x)).toList = vs := by
      rw [Array.toList_map]; exact ha.evps hx
    simp only [Bool.and_eq_true, decide_eq_true_eq] at hlen
    have h1 : ¬ len * m > 2 ^ 24 := by omega
    have h2 : ¬ len * m = 0 := by omega
    simp only [execOp, Instr.buildSlice, Sem.run_bind, run_underlying ht, Result.andThen_ok, run_sizeOf hs, h1, h2, if_false, run_zeroValue hz, Sem.run_pure, hparts, hf, newRow]
    simp) h
theorem turned_setRow {w : World} {g : Nat} {cs cs' : Array Value} {e : TypeId} (h : w.heap[g]? = some (.cells cs e (0, 0))) : Turned w (w.setRow g cs') g (.cells cs' e (0, 0)) where
  os := rfl
  tape := rfl
  output := rfl
  size := by simp [World.setRow]
  at_ := setRow_heap w g cs cs' e (0, 0) h
  other := fun k hk => by
    simp only [World.setRow, Array.getElem?_modify]
    rw [if_neg (fun e => hk e.symm)]
/-- A store into a block of the call's own. -/
theorem x_store_core {o : Oper} {v : Value} {l1 l2 : List (Nat × Obj)} {cs : List Value} {e : TypeId} {m : Nat} (ho : lops[i]? = some o) (hgo : Go_ lops n l o) (hop : o.op = .store t x y) (hd0 : o.dst = none) (hx : ev l x = some (.pointer (some ⟨b, off, none⟩))) (hy : ev l y = some v)
    (hs : (P.info? t).map (·.size) = some m) (hm : (decide (v.cells.size = m) && v.cells.toList.all (fun u => u.oneCell')) = true) (hb : off + m ≤ cs.length) (hown : own = l1 ++ (b, .cells cs.toArray e (0, 0)) :: l2)
    (h : WX P lops.toArray Q K rest n l (l1 ++ (b, .cells (cs.take off ++ v.cells.toList ++ cs.drop (off + m)).toArray e (0, 0)) :: l2) ro) : WX P lops.toArray Q K ((none, i) :: rest) n l own ro := by
  subst hown
  intro a w ha hw
  simp only [Bool.and_eq_true, decide_eq_true_eq, List.all_eq_true] at hm
  obtain ⟨hm, h1⟩ := hm
  have hw1 := hgo a ha
  simp only [wpX, List.getElem?_toArray, ho]
  intro w' hl
  rw [if_pos hw1]
  have hM := hw.later hl
  have hg : w'.heap[b]? = some (.cells cs.toArray e (0, 0)) := hM.own_at (b, _) (by simp)
  have hlen : v.cells.toList.length = m := by simpa using hm
  have hst := run_storeCells_at (P := P) b off e v.cells.toList 0 cs.toArray w' hg (by simp only [List.size_toArray]; omega) h1
  have hst2 : (storeVar t ⟨b, off, none⟩ v).run P w' = .ok () (w'.setRow b (cs.take off ++ v.cells.toList ++ cs.drop (off + m)).toArray) := by
    simp only [storeVar, Sem.run_bind, run_sizeOf hs, Result.andThen_ok, hm, ne_eq, not_true, if_false, hst, Nat.add_zero, hlen]
  unfold Oper.wp
  have hrun : (execOp a.eval o).run P w' = .ok .skip (w'.setRow b (cs.take off ++ v.cells.toList ++ cs.drop (off + m)).toArray) := by
    simp only [execOp, hop, ha.eval hx, ha.eval hy, Instr.storeAt, Instr.sureAddr, Sem.run_bind, Sem.run_pure, Result.andThen_ok, hst2]
  rw [hrun]
  show wpX P lops.toArray Q K rest (a.put o.dst undef) _
  rw [hd0]
  exact h a _ ha (hM.turn (turned_setRow hg))
theorem x_store {v : Value} (l1 : List (Nat × Obj)) {l2 : List (Nat × Obj)} {cs : List Value} {e : TypeId} {m : Nat} (ho : lops[i]? = some ⟨none, .store t x y, ty, pos, af, none⟩) (hx : ev l x = some (.pointer (some ⟨b, off, none⟩))) (hy : ev l y = some v)
    (hown : own = l1 ++ (b, .cells cs.toArray e (0, 0)) :: l2) (hs : (P.info? t).map (·.size) = some m) (hm : (decide (v.cells.size = m) && v.cells.toList.all (fun u => u.oneCell')) = true) (hb : off + m ≤ cs.length)
    (h : WX P lops.toArray Q K rest n l (l1 ++ (b, .cells (cs.take off ++ v.cells.toList ++ cs.drop (off + m)).toArray e (0, 0)) :: l2) ro) : WX P lops.toArray Q K ((none, i) :: rest) n l own ro :=
  x_store_core ho (go_none rfl) rfl rfl hx hy hs hm hb hown h
/-- 'a[i]' of an array behind a pointer: the place. -/
theorem v_indexArr {e : TypeId} {N j m b off off' : Nat} {kk : IntKind} (ht : P.underlying t = some (.array N e)) (hs : (P.info? e).map (·.size) = some m) (hx : ev l x = some (.pointer (some ⟨b, off, none⟩))) (hy : ev l y = some (.int kk (j : Nat))) (hj : j < N) (ho' : off + j * m = off') :
    OpV P n l own ro (.indexAddr t x y) ty (.pointer (some ⟨b, off', none⟩)) := by
  intro A w o ha _ ho _
  obtain ⟨inf, hi, hsz⟩ := Option.map_eq_some_iff.1 hs
  have : (Addr.mk b off none).add (j * m) = ⟨b, off', none⟩ := by rw [mk_add, ho']
  simp [execOp, ho, ha.eval hx, ha.eval hy, Instr.indexAt, run_underlying ht, asIntOf, Instr.sureAddr, sizeOf, typeInfo, hi, hsz, hj, this]
/-- A store of a whole variable. -/
theorem x_store0 {v : Value} (l1 : List (Nat × Obj)) {l2 : List (Nat × Obj)} {cs : Array Value} {e : TypeId} {m : Nat} (ho : lops[i]? = some ⟨none, .store t x y, ty, pos, af, none⟩) (hx : ev l x = some (.pointer (some ⟨b, 0, none⟩))) (hy : ev l y = some v)
    (hown : own = l1 ++ (b, .cells cs e (0, 0)) :: l2) (hs : (P.info? t).map (·.size) = some m) (hm : (decide (v.cells.size = m) && v.cells.toList.all (fun u => u.oneCell')) = true) (hb : cs.size = m)
    (h : WX P lops.toArray Q K rest n l (l1 ++ (b, .cells v.cells e (0, 0)) :: l2) ro) : WX P lops.toArray Q K ((none, i) :: rest) n l own ro := by
  have hsz : v.cells.size = m := by simp only [Bool.and_eq_true, decide_eq_true_eq] at hm; exact hm.1
  refine x_store_core (cs := cs.toList) ho (go_none rfl) rfl rfl hx hy hs hm (by simp [hb]) (by simpa using hown) ?_
  have e1 : (cs.toList.take 0 ++ v.cells.toList ++ cs.toList.drop (0 + m)).toArray = v.cells := by
    rw [List.take_zero, List.drop_eq_nil_of_le (by simp [hb])]
    simp
  rw [e1]
  exact h
/-- 'xs[:j]' of a slice. -/
theorem v_scut_to {e : TypeId} {A : Option Addr} {len cap j m : Nat} {kk : IntKind} (ht : P.underlying t = some (.slice e)) (hs : (P.info? e).map (·.size) = some m) (hx : ev l x = some (.slice A len cap)) (hy : ev l y = some (.int kk (j : Nat))) (hj : j ≤ cap) :
    OpV P n l own ro (.slice t x none (some y) none) ty (.slice A j cap) := by
  intro a w o ha hw ho _
  have h2 : (Instr.sliceAt t (.slice A len cap) none (some (.int kk (j : Nat))) none).run P w = .ok (.slice A j cap) w := by
    have hA : (if cap = 0 then A else A.map (fun a => a.add (0 * m))) = A := by
      split
      · rfl
      · cases A with
        | none => rfl
        | some a => simp [Addr.add]
    simp [Instr.sliceAt, Instr.slice, Instr.sliceBounds, Instr.sliceBound, asIntOf, run_underlying ht, hj, run_sizeOf hs]
    simpa using hA
  simp [execOp, ho, ha.eval hx, ha.eval hy, h2]
end
end Go.PK

/- Of the proofs of YtbamklefagghcaaGreatDoor; see NOTES.md. -/
namespace Go.PK
open Go Go.RowKit
set_option linter.unusedVariables false

def slots : Nat → List Value → List (Nat × Value)
  | _, [] => []
  | i, v :: vs => (i, v) :: slots (i + 1) vs
theorem slots_lookup : ∀ (vs : List Value) (i s : Nat) (v : Value), (slots i vs).lookup s = some v → i ≤ s ∧ vs[s - i]? = some v
  | [], _, _, _, h => by simp [slots] at h
  | u :: us, i, s, v, h => by
    simp only [slots, List.lookup_cons] at h
    by_cases hs : s = i
    · subst hs; simp at h; simp [h]
    · have : (s == i) = false := by simpa using hs
      simp only [this] at h
      obtain ⟨h1, h2⟩ := slots_lookup us (i + 1) s v h
      refine ⟨by omega, ?_⟩
      rw [show s - i = (s - (i + 1)) + 1 by omega]
      simpa using h2

section
variable {P : Program} {n : Nat} {l : List (Nat × Value)} {own : List (Nat × Obj)} {ro : List Snap} {Q : Exit → Act → World → Prop} {K : Act → World → Prop} {R : Ending → World → Prop} {fn : Func}

/-- A function is entered. -/
theorem enter {f : FuncId} {c : Code} {vs : List Value} {w : World} (hf : P.funcs[f]? = some fn) (hb : fn.body = some c) (hn : fn.ntmps = n) (hv : decide (vs.length ≤ n) = true)
    (h : W P c (bodyPost P fn R) n (slots 0 vs) [] [(w, fun _ => True)]) : Calls P f vs.toArray w R := by
  have hv' := of_decide_eq_true hv
  refine calls_of_wp hf hb (h _ w ⟨by simp [hn]; omega, rfl, fun s v hs => ?_⟩ (Mem.init w))
  obtain ⟨_, h2⟩ := slots_lookup _ _ _ _ hs
  simp only [Nat.sub_zero] at h2
  have hlt : s < vs.length := (List.getElem?_eq_some_iff.1 h2).1
  show (vs.toArray ++ _)[s]? = some v
  rw [Array.getElem?_append_left (by simpa using hlt)]
  simpa using h2

theorem t_ret {K : Act → World → Prop} (h : S (Q .ret) n l own ro) : S (Exit.then K Q .ret) n l own ro := h
theorem t_exit {K : Act → World → Prop} {id : Nat} (h : S (Q (.exit id)) n l own ro) : S (Exit.then K Q (.exit id)) n l own ro := h
theorem t_norm {y : Code} (h : W P y Q n l own ro) : S (Exit.then (y.wp P Q) Q .normal) n l own ro := h
theorem b_ret {id : Nat} (h : S (Q .ret) n l own ro) : S (Exit.inBlock id Q .ret) n l own ro := h
theorem b_norm {id : Nat} (h : S (Q .normal) n l own ro) : S (Exit.inBlock id Q .normal) n l own ro := h
theorem b_hit {id : Nat} (h : S (Q .normal) n l own ro) : S (Exit.inBlock id Q (.exit id)) n l own ro := fun a w ha hw => by
  simp only [Exit.inBlock, if_true]; exact h a w ha hw
theorem b_miss {id id' : Nat} (hne : decide (id' = id) = false) (h : S (Q (.exit id')) n l own ro) : S (Exit.inBlock id Q (.exit id')) n l own ro := fun a w ha hw => by
  simp only [Exit.inBlock, of_decide_eq_false hne, if_false]; exact h a w ha hw
/-- The end of a round. -/
theorem l_norm {σ : Type} {I : σ → Prop} {L : σ → List (Nat × Value)} {O : σ → List (Nat × Obj)} {Rr : σ → List Snap} {μ : σ → Nat} {x : σ} (x' : σ) (hI : I x') (hlt : μ x' < μ x) (hs : Sub (L x') l) (hm : ∀ w, Mem w own ro → Mem w (O x') (Rr x')) :
    S (Exit.then (fun a w => ∃ x', I x' ∧ μ x' < μ x ∧ FH n (L x') a ∧ Mem w (O x') (Rr x')) Q .normal) n l own ro :=
  fun a w ha hw => ⟨x', hI, hlt, ha.sub hs, hm w hw⟩
/-- The ways meet. -/
theorem w_seq_cut {σ : Type} {x y : Code} (I : σ → Prop) (L : σ → List (Nat × Value)) (O : σ → List (Nat × Obj)) (Rr : σ → List Snap)
    (h1 : W P x (Exit.then (fun a w => ∃ x', I x' ∧ FH n (L x') a ∧ Mem w (O x') (Rr x')) Q) n l own ro) (h2 : ∀ x', I x' → W P y Q n (L x') (O x') (Rr x')) : W P (.seq x y) Q n l own ro :=
  fun a w ha hw => wp_seq (wp_mono (h1 a w ha hw) fun e a' w' hq => by
    cases e with
    | normal => obtain ⟨x', h0, h3, h4⟩ := hq; exact h2 x' h0 a' w' h3 h4
    | exit _ => exact hq
    | goto _ => exact hq
    | ret => exact hq
    | panic _ => exact hq
    | outgrown => exact hq)
theorem c_norm {σ : Type} {I : σ → Prop} {L : σ → List (Nat × Value)} {O : σ → List (Nat × Obj)} {Rr : σ → List Snap} (x' : σ) (hI : I x') (hs : Sub (L x') l) (hm : ∀ w, Mem w own ro → Mem w (O x') (Rr x')) :
    S (Exit.then (fun a w => ∃ x', I x' ∧ FH n (L x') a ∧ Mem w (O x') (Rr x')) Q .normal) n l own ro :=
  fun a w ha hw => ⟨x', hI, ha.sub hs, hm w hw⟩
theorem l_start {L' : List (Nat × Value)} {O' : List (Nat × Obj)} {R' : List Snap} (hs : Sub L' l) (hm : ∀ w, Mem w own ro → Mem w O' R') : ∀ a w, FH n l a → Mem w own ro → FH n L' a ∧ Mem w O' R' :=
  fun a w ha hw => ⟨ha.sub hs, hm w hw⟩

/-! ## The end of a function -/
theorem ret1 {t : Tmp} {v : Value} (hr : fn.results = #[.tmp t]) (hv : l.lookup t = some v) (h : ∀ w', Mem w' own ro → R (.returned v) w') : S (bodyPost P fn R .ret) n l own ro := by
  intro a w ha hw
  refine ⟨ha.df, v, ?_, h w hw⟩
  have := ha.at_ t v hv
  rw [results_tmp hr]
  simp [Array.getD_eq_getD_getElem?, this]
theorem end1 {t : Tmp} {v : Value} (hr : fn.results = #[.tmp t]) (hv : l.lookup t = some v) (h : ∀ w', Mem w' own ro → R (.returned v) w') : S (bodyPost P fn R .normal) n l own ro := ret1 hr hv h
theorem ret2 {t u : Tmp} {v v' : Value} (hr : fn.results = #[.tmp t, .tmp u]) (hv : l.lookup t = some v) (hv' : l.lookup u = some v') (h : ∀ w', Mem w' own ro → R (.returned (.tuple #[v, v'])) w') : S (bodyPost P fn R .ret) n l own ro := by
  intro a w ha hw
  refine ⟨ha.df, _, ?_, h w hw⟩
  rw [results_tmp2 hr]
  simp [Array.getD_eq_getD_getElem?, ha.at_ t v hv, ha.at_ u v' hv']
theorem ret3 {t u s : Tmp} {v v' v'' : Value} (hr : fn.results = #[.tmp t, .tmp u, .tmp s]) (hv : l.lookup t = some v) (hv' : l.lookup u = some v') (hv'' : l.lookup s = some v'') (h : ∀ w', Mem w' own ro → R (.returned (.tuple #[v, v', v''])) w') : S (bodyPost P fn R .ret) n l own ro := by
  intro a w ha hw
  refine ⟨ha.df, _, ?_, h w hw⟩
  rw [results_tmp3 hr]
  simp [Array.getD_eq_getD_getElem?, ha.at_ t v hv, ha.at_ u v' hv', ha.at_ s v'' hv'']
theorem ret0 (hr : fn.results = #[]) (h : ∀ w', Mem w' own ro → R (.returned (.tuple #[])) w') : S (bodyPost P fn R .normal) n l own ro := by
  intro a w ha hw
  exact ⟨ha.df, _, results_none hr _ _ _, h w hw⟩
/-- A result that lies in a block of the call's own. -/
theorem retc {t : Tmp} {ty : TypeId} {td : TypeDesc} {b : Nat} {cs : Array Value} {e : TypeId} {fz : Nat × Nat} (hr : fn.results = #[.cell t ty]) (hv : l.lookup t = some (.pointer (some ⟨b, 0, none⟩))) (hb : (b, Obj.cells cs e fz) ∈ own)
    (ht : P.underlying ty = some td) (hd : aggT td = true) (hs : (P.info? ty).map (·.size) = some cs.size) (h : ∀ w', Mem w' own ro → R (.returned (.agg cs)) w') : S (bodyPost P fn R .ret) n l own ro := by
  intro a w ha hw
  refine ⟨ha.df, _, ?_, h w hw⟩
  exact results_cell_row hr a.tmps w b e cs fz td (by simp [Array.getD_eq_getD_getElem?, ha.at_ t _ hv]) (hw.own_at _ hb) ht (by cases td <;> simp_all [aggT]) hs

/-! ## Bools -/
theorem tdec {p : Prop} [Decidable p] : (true = decide p) = p := by simp
theorem fdec {p : Prop} [Decidable p] : (false = decide p) = ¬p := by simp
end
end Go.PK

/- Of the proofs of YtbamklefagghcaaGreatDoor; see NOTES.md. -/
namespace Go.PK
open Go Go.RowKit
set_option linter.unusedVariables false

/-- How a Go type of 'size' cells reads as data: over blocks of the domain D. -/
structure Ty (α : Type) where
  size : Nat
  rd : (Nat → Prop) → World → List Value → α → Prop
  len : ∀ {D w cs x}, rd D w cs x → cs.length = size
  keep : ∀ {D D' : Nat → Prop} {w w' cs x}, rd D w cs x → (∀ k, D k → k < w.heap.size → D' k ∧ w'.heap[k]? = w.heap[k]?) → rd D' w' cs x

/-- What w' keeps of w. -/
def Kept (D D' : Nat → Prop) (w w' : World) : Prop := ∀ k, D k → k < w.heap.size → D' k ∧ w'.heap[k]? = w.heap[k]?
theorem Kept.later {D : Nat → Prop} {w w' : World} (h : Later w w') : Kept D D w w' := fun k hk hlt => ⟨hk, h.block k hlt⟩
theorem Kept.all {D : Nat → Prop} {w w' : World} (h : Later w w') : Kept D (fun _ => True) w w' := fun k hk hlt => ⟨trivial, h.block k hlt⟩
theorem Kept.snap {own : List (Nat × Obj)} {ro : List Snap} {w : World} {s : Snap} {D' : Nat → Prop} (h : Mem w own ro) (hs : s ∈ ro) (hd : ∀ k, s.2 k → k < s.1.heap.size → D' k) : Kept s.2 D' s.1 w :=
  fun k hk hlt => ⟨hd k hk hlt, h.ro_at s hs k hk hlt⟩

def sliceRd {α : Type} (T : Ty α) (D : Nat → Prop) (w : World) (v : Value) (xs : List α) : Prop :=
  ∃ A c, v = .slice A xs.length c ∧ xs.length ≤ c ∧ xs.length ≤ 9223372036854775807 ∧
    (0 < xs.length → ∃ b off, A = some ⟨b, off, none⟩ ∧ D b ∧ b < w.heap.size ∧
      ∀ j (hj : j < xs.length), ∃ cs, (∀ i (hi : i < cs.length), w.cell? ⟨b, off + j * T.size + i, none⟩ = some cs[i]) ∧ T.rd D w cs xs[j])

theorem cell_keep {w w' : World} {b off : Nat} (h : w'.heap[b]? = w.heap[b]?) : w'.cell? ⟨b, off, none⟩ = w.cell? ⟨b, off, none⟩ := World.cell?_of_block (w := w) h

theorem sliceRd.keep {α : Type} {T : Ty α} {D D' : Nat → Prop} {w w' : World} {v : Value} {xs : List α} (h : sliceRd T D w v xs) (hk : Kept D D' w w') : sliceRd T D' w' v xs := by
  obtain ⟨A, c, hv, h1, h2, h3⟩ := h
  refine ⟨A, c, hv, h1, h2, fun hl => ?_⟩
  obtain ⟨b, off, hA, hD, hb, hc⟩ := h3 hl
  obtain ⟨hD', hblk⟩ := hk b hD hb
  refine ⟨b, off, hA, hD', ?_, fun j hj => ?_⟩
  · obtain ⟨cs, h4, h5⟩ := hc 0 hl
    have hh : ∃ o, w.heap[b]? = some o := ⟨_, Array.getElem?_eq_getElem hb⟩
    obtain ⟨o, ho⟩ := hh
    exact heap_lt (hblk.trans ho)
  · obtain ⟨cs, h4, h5⟩ := hc j hj
    exact ⟨cs, fun i hi => (cell_keep hblk).trans (h4 i hi), T.keep h5 hk⟩

theorem sliceRd.take {α : Type} {T : Ty α} {D : Nat → Prop} {w : World} {A : Option Addr} {c : Nat} {xs : List α} (j : Nat) (hj : j ≤ xs.length) (h : sliceRd T D w (.slice A xs.length c) xs) : sliceRd T D w (.slice A j c) (xs.take j) := by
  obtain ⟨A', c', hv, h1, h2, h3⟩ := h
  injection hv with e1 e2 e3
  subst e1 e3
  have hl : (xs.take j).length = j := by simp; omega
  refine ⟨A, c, by rw [hl], by omega, by omega, fun h0 => ?_⟩
  rw [hl] at h0
  obtain ⟨b, off, hA, hD, hb, hc⟩ := h3 (by omega)
  refine ⟨b, off, hA, hD, hb, fun i hi => ?_⟩
  rw [hl] at hi
  obtain ⟨cs, h4, h5⟩ := hc i (by omega)
  exact ⟨cs, h4, by rw [List.getElem_take]; exact h5⟩
def tyInt : Ty Int where
  size := 1
  rd := fun _ _ cs x => cs = [.int .i64 x]
  len := fun h => by subst h; rfl
  keep := fun h _ => h
def okS (s : ByteArray) : Prop := s.size ≤ 9223372036854775807
def tyStr : Ty ByteArray where
  size := 1
  rd := fun _ _ cs x => cs = [.string x] ∧ okS x
  len := fun h => by rw [h.1]; rfl
  keep := fun h _ => h
def tySlice {α : Type} (T : Ty α) : Ty (List α) where
  size := 1
  rd := fun D w cs xs => ∃ v, cs = [v] ∧ sliceRd T D w v xs
  len := fun ⟨v, h, _⟩ => by rw [h]; rfl
  keep := fun ⟨v, h, h2⟩ hk => ⟨v, h, h2.keep hk⟩

structure Sb where
  code : UInt8
  text : ByteArray
deriving DecidableEq
def tySb : Ty Sb where
  size := 2
  rd := fun _ _ cs x => cs = [.int .u8 x.code.toNat, .string x.text] ∧ okS x.text
  len := fun h => by rw [h.1]; rfl
  keep := fun h _ => h
structure Fl where
  tag : ByteArray
  ind : ByteArray
  data : ByteArray
  subs : List Sb
deriving DecidableEq
def Fl.ok (f : Fl) : Prop := okS f.tag ∧ okS f.ind ∧ okS f.data
def tyFl : Ty Fl where
  size := 4
  rd := fun D w cs x => ∃ v, cs = [.string x.tag, .string x.ind, .string x.data, v] ∧ x.ok ∧ sliceRd tySb D w v x.subs
  len := fun ⟨v, h, _⟩ => by rw [h]; rfl
  keep := fun ⟨v, h, h2, h3⟩ hk => ⟨v, h, h2, h3.keep hk⟩
structure Rl where
  tag : ByteArray
  must : Bool
  once : Bool
  i0 : ByteArray
  i1 : ByteArray
  codes : ByteArray
  single : ByteArray
deriving DecidableEq
def Rl.ok (r : Rl) : Prop := okS r.tag ∧ okS r.i0 ∧ okS r.i1 ∧ okS r.codes ∧ okS r.single
def Rl.cells (r : Rl) : List Value := [.string r.tag, .bool r.must, .bool r.once, .string r.i0, .string r.i1, .string r.codes, .string r.single]
def tyRl : Ty Rl where
  size := 7
  rd := fun _ _ cs x => cs = [.string x.tag, .bool x.must, .bool x.once, .string x.i0, .string x.i1, .string x.codes, .string x.single] ∧ x.ok
  len := fun h => by rw [h.1]; rfl
  keep := fun h _ => h
structure Pb where
  field : Int
  kind : Int
deriving DecidableEq
def tyPb : Ty Pb where
  size := 2
  rd := fun _ _ cs x => cs = [.int .i64 x.field, .int .i64 x.kind]
  len := fun h => by rw [h]; rfl
  keep := fun h _ => h
end Go.PK

/- Of the proofs of YtbamklefagghcaaGreatDoor; see NOTES.md. -/
namespace Go.PK
open Go Go.RowKit
set_option linter.unusedVariables false
set_option linter.unusedSimpArgs false

/-- bytealg.IndexByteString, which has no body. -/
theorem v_idxb {P : Program} {n : Nat} {l : List (Nat × Value)} {own : List (Nat × Obj)} {ro : List Snap} {ty : TypeId} {f : FuncId} {fn : Func} {x y : Operand} {tys : Array TypeId} {s : ByteArray} {c : Int}
    (hf : P.funcs[f]? = some fn) (hname : (fn.name == "runtime.NumGoroutine") = false) (hb : fn.body.isNone = true) (hn : Extern.findNext fn = none) (he : Extern.find fn = some Extern.BytealgIndexByte.indexByte)
    (hx : ev l x = some (.string s)) (hy : ev l y = some (.int .u8 c)) : OpV P n l own ro (.call ⟨.value (.func f), #[x, y], tys⟩) ty (.int .i64 (firstIdx s c.toNat.toUInt8)) := by
  intro a w o ha _ ho _
  have h0 : a.eval (.func f) = .func (.func f) #[] #[] := rfl
  have h4 := run_indexByte_string (P := P) s c w
  simp [execOp, ho, resolve, h0, ha.eval hx, ha.eval hy, Deferred.ofValue, invoke, run_callFunc_extern hf hname hb hn he]
  rw [h4]
  rfl
/-- Does the byte stand in the string? -/
def hasB (s : ByteArray) (c : UInt8) : Bool := decide (∃ j, j < s.size ∧ byteAt s j = c)
theorem hasB_iff {s : ByteArray} {c : UInt8} : hasB s c = true ↔ ∃ j, j < s.size ∧ byteAt s j = c := by simp [hasB]
theorem get!_eq {s : ByteArray} {i : Nat} (h : i < s.size) : s[i]! = byteAt s i := by
  rw [byteAt_eq h]
  exact getElem!_pos s i h
theorem firstIdx_nonneg (s : ByteArray) (c : UInt8) : (0 ≤ firstIdx s c) = (hasB s c = true) := by
  rw [hasB_iff]
  unfold firstIdx
  cases h : (List.range s.size).find? fun i => s[i]! == c with
  | none =>
    simp only [eq_iff_iff]
    constructor
    · intro h0; omega
    · rintro ⟨j, hj, hb⟩
      have := List.find?_eq_none.1 h j (List.mem_range.2 hj)
      rw [get!_eq hj] at this
      simp [hb] at this
  | some i =>
    simp only [eq_iff_iff]
    constructor
    · intro _
      have h1 := List.find?_some h
      have h2 := List.mem_range.1 (List.mem_of_find?_eq_some h)
      rw [get!_eq h2] at h1
      exact ⟨i, h2, by simpa using h1⟩
    · intro _; omega
theorem firstIdx_ge (s : ByteArray) (c : UInt8) : -1 ≤ firstIdx s c ∧ firstIdx s c < s.size ∨ firstIdx s c = -1 := by
  unfold firstIdx
  cases h : (List.range s.size).find? fun i => s[i]! == c with
  | none => right; rfl
  | some i =>
    left
    have h2 := List.mem_range.1 (List.mem_of_find?_eq_some h)
    simp only
    omega
theorem firstIdx_one {s : ByteArray} (h : s.size = 1) : firstIdx s (byteAt s 0) = 0 := by
  unfold firstIdx
  rw [h]
  have h0 : (s[0]! == byteAt s 0) = true := by rw [get!_eq (by omega)]; simp
  have : (List.range 1).find? (fun i => s[i]! == byteAt s 0) = some 0 := by
    simp only [List.range_succ, List.range_zero, List.nil_append, List.find?_cons, h0]
  rw [this]
  rfl
theorem u8b (c : UInt8) : ((c.toNat : Nat) : Int).toNat.toUInt8 = c := by simp
theorem firstIdx_nn (s : ByteArray) (c : UInt8) : 0 ≤ firstIdx s c ↔ hasB s c = true := by
  have h := firstIdx_nonneg s c
  simpa using h
theorem u8_eq {a b : UInt8} (h : (a.toNat : Int) = (b.toNat : Int)) : a = b := UInt8.toNat_inj.1 (by omega)
theorem u8_ne {a b : UInt8} (h : ¬(a.toNat : Int) = (b.toNat : Int)) : a ≠ b := fun e => h (by rw [e])
theorem tmod_bd (a m : Int) (h : 0 < m) : -m < a.tmod m ∧ a.tmod m < m :=
  ⟨by have := Int.lt_tmod_of_pos a h; omega, Int.tmod_lt_of_pos a h⟩
theorem tmod_mod (a m : Int) (h : 0 < m) : (a.tmod m + m).tmod m = a % m := by
  have h1 := tmod_bd a m h
  rw [Int.tmod_eq_emod_of_nonneg (by omega), Int.add_emod_right]
  have h2 := Int.mul_tdiv_add_tmod a m
  conv => rhs; rw [← h2]
  rw [Int.mul_add_emod_self_left]
/-- Is p the head of s? -/
def pre (s p : ByteArray) : Bool := decide (p.size ≤ s.size ∧ s.extract 0 p.size = p)
def ctl (t : ByteArray) : Bool := pre t ⟨#[48, 48]⟩
theorem byteAt_extract {t : ByteArray} {a b j : Nat} (h : a + j < b) (hb : b ≤ t.size) : byteAt (t.extract a b) j = byteAt t (a + j) := by
  have h1 : j < (t.extract a b).size := by rw [ByteArray.size_extract]; omega
  rw [byteAt_eq h1, byteAt_eq (by omega), ByteArray.getElem_extract]
theorem hasB_digits (c : UInt8) : (hasB ⟨#[48, 49, 50, 51, 52, 53, 54, 55, 56, 57]⟩ c = true) ↔ 48 ≤ c.toNat ∧ c.toNat ≤ 57 := by
  rw [hasB_iff]
  constructor
  · rintro ⟨j, hj, rfl⟩
    have hj' : j < 10 := hj
    match j, hj' with
    | 0, _ | 1, _ | 2, _ | 3, _ | 4, _ | 5, _ | 6, _ | 7, _ | 8, _ | 9, _ => exact ⟨by decide, by decide⟩
  · rintro ⟨h1, h2⟩
    refine ⟨c.toNat - 48, by show c.toNat - 48 < 10; omega, ?_⟩
    have : ∀ k, k < 10 → byteAt ⟨#[48, 49, 50, 51, 52, 53, 54, 55, 56, 57]⟩ k = UInt8.ofNat (48 + k) := by decide
    rw [this _ (by omega), show 48 + (c.toNat - 48) = c.toNat by omega]
    simp
def okM (p t : ByteArray) (k : Nat) : Prop := byteAt t k = byteAt p k ∨ byteAt p k = 120 ∧ 48 ≤ (byteAt t k).toNat ∧ (byteAt t k).toNat ≤ 57
instance (p t : ByteArray) (k : Nat) : Decidable (okM p t k) := by unfold okM; infer_instance
/-- Does a tag match the tag of a rule? -/
def mtc (p t : ByteArray) : Bool := decide (p.size = t.size ∧ ∀ k, k < t.size → okM p t k)
theorem m_no {p t : ByteArray} {k : Nat} (h : ¬((byteAt t k).toNat : Int) = (byteAt p k).toNat ∧ (¬((byteAt p k).toNat : Int) = 120 ∨ ¬(48 ≤ (byteAt t k).toNat ∧ (byteAt t k).toNat ≤ 57))) : ¬ okM p t k := by
  obtain ⟨h1, h2⟩ := h
  rintro (h3 | ⟨h3, h4⟩)
  · exact h1 (by rw [h3])
  · rcases h2 with h2 | h2
    · exact h2 (by rw [h3]; rfl)
    · exact h2 h4
theorem m_yes {p t : ByteArray} {k : Nat} (h : ((byteAt t k).toNat : Int) = (byteAt p k).toNat ∨ ((byteAt p k).toNat : Int) = 120 ∧ (48 ≤ (byteAt t k).toNat ∧ (byteAt t k).toNat ≤ 57)) : okM p t k := by
  rcases h with h | ⟨h1, h2⟩
  · exact .inl (u8_eq h)
  · exact .inr ⟨u8_eq (b := 120) (by rw [h1]; rfl), h2⟩
theorem mtc_true {p t : ByteArray} (h : p.size = t.size) (hk : ∀ k, k < t.size → okM p t k) : mtc p t = true := decide_eq_true ⟨h, hk⟩
theorem mtc_size {p t : ByteArray} (h : ¬ p.size = t.size) : mtc p t = false := decide_eq_false fun x => h x.1
theorem mtc_at {p t : ByteArray} {k : Nat} (h : k < t.size) (hk : ¬ okM p t k) : mtc p t = false := decide_eq_false fun x => hk (x.2 k h)
theorem snoc_all {k : Nat} {p : Nat → Prop} (h : ∀ j, j < k → p j) (hk : p k) : ∀ j, j < k + 1 → p j := fun j hj => by
  rcases Nat.lt_succ_iff_lt_or_eq.1 hj with h1 | rfl
  · exact h j h1
  · exact hk
/-- The first index, or -1. -/
def fidx {α : Type} (p : α → Bool) (xs : List α) : Int := match xs.findIdx? p with | some i => (i : Nat) | none => -1
theorem fidx_at {α : Type} {p : α → Bool} {xs : List α} {k : Nat} (hk : k < xs.length) (h : p xs[k] = true) (hn : ∀ j (hj : j < xs.length), j < k → p xs[j] = false) : fidx p xs = k := by
  unfold fidx
  have : xs.findIdx? p = some k := by
    rw [List.findIdx?_eq_some_iff_getElem]
    exact ⟨hk, h, fun j hj => by rw [hn j (by omega) hj]; exact Bool.false_ne_true⟩
  rw [this]
theorem fidx_none {α : Type} {p : α → Bool} {xs : List α} (hn : ∀ j (hj : j < xs.length), p xs[j] = false) : fidx p xs = -1 := by
  unfold fidx
  have : xs.findIdx? p = none := by
    rw [List.findIdx?_eq_none_iff]
    intro x hx
    obtain ⟨j, hj, rfl⟩ := List.mem_iff_getElem.1 hx
    exact hn j hj
  rw [this]
theorem fidx_nn {α : Type} (p : α → Bool) (xs : List α) : (0 ≤ fidx p xs) ↔ xs.any p = true := by
  unfold fidx
  cases h : xs.findIdx? p with
  | none =>
    simp only [List.any_eq_true]
    rw [List.findIdx?_eq_none_iff] at h
    constructor
    · intro h0; omega
    · rintro ⟨x, hx, hp⟩; rw [h x hx] at hp; cases hp
  | some i =>
    simp only [List.any_eq_true]
    obtain ⟨hi, hp, _⟩ := List.findIdx?_eq_some_iff_getElem.1 h
    exact ⟨fun _ => ⟨_, List.getElem_mem hi, hp⟩, fun _ => by omega⟩
theorem snoc_all' {n k : Nat} {p : (j : Nat) → j < n → Prop} (h : ∀ j (hj : j < n), j < k → p j hj) (hk : ∀ hj : k < n, p k hj) : ∀ j (hj : j < n), j < k + 1 → p j hj := fun j hj h1 => by
  rcases Nat.lt_succ_iff_lt_or_eq.1 h1 with h2 | rfl
  · exact h j hj h2
  · exact hk hj
theorem idx_neg (s : ByteArray) (c : UInt8) : decide (firstIdx s c < 0) = !hasB s c := by
  have h := firstIdx_nn s c
  cases hb : hasB s c with
  | true => rw [hb] at h; have := h.2 rfl; simp; omega
  | false => rw [hb] at h; have : ¬ 0 ≤ firstIdx s c := fun x => Bool.false_ne_true (h.1 x); simp; omega
theorem empty_iff (s : ByteArray) : (s = ⟨#[]⟩) = (s.size = 0) := by
  rw [eq_iff_iff]
  constructor
  · rintro rfl; rfl
  · intro h; exact ByteArray.ext (Array.eq_empty_of_size_eq_zero h)
theorem two_iff (n : Nat) : ((n : Int) = 2) = (n = 2) := by rw [eq_iff_iff]; omega
/-- Has a field the right parts? -/
def shp (f : Fl) : Bool := if ctl f.tag = true then decide (f.ind.size = 0 ∧ f.subs = []) else decide (f.data.size = 0 ∧ f.ind.size = 2 ∧ f.subs ≠ [])
def cdAt (l : List Sb) (j : Nat) : UInt8 := (l.getD j ⟨0, ⟨#[]⟩⟩).code
theorem cdAt_eq {l : List Sb} {j : Nat} (h : j < l.length) : cdAt l j = l[j].code := by unfold cdAt; rw [List.getD_eq_getElem?_getD, List.getElem?_eq_getElem h]; rfl
def dupAt (single : ByteArray) (l : List Sb) (j : Nat) : Prop := (∃ i, i < j ∧ cdAt l i = cdAt l j) ∧ hasB single (cdAt l j) = true
/-- Does a code that may occur only once occur again? -/
noncomputable def dup (single : ByteArray) (l : List Sb) : Bool := @decide (∃ j, j < l.length ∧ dupAt single l j) (Classical.propDecidable _)
theorem dup_yes {single : ByteArray} {l : List Sb} {j : Nat} (h : j < l.length) (hd : dupAt single l j) : dup single l = true := by unfold dup; exact @decide_eq_true _ (Classical.propDecidable _) ⟨j, h, hd⟩
theorem dup_no {single : ByteArray} {l : List Sb} (h : ∀ j, j < l.length → ¬ dupAt single l j) : dup single l = false := by unfold dup; exact @decide_eq_false _ (Classical.propDecidable _) (fun ⟨j, hj, hd⟩ => h j hj hd)
theorem dupAt_mk {single : ByteArray} {l : List Sb} {k : Nat} {c : UInt8} (hc : cdAt l k = c) (h : (∃ j, j < k ∧ (cdAt l j).toNat = c.toNat) ∧ hasB single c = true) : dupAt single l k := by
  obtain ⟨⟨j, hj, he⟩, h2⟩ := h
  exact ⟨⟨j, hj, by rw [hc]; exact UInt8.toNat_inj.1 he⟩, by rw [hc]; exact h2⟩
theorem dupAt_not {single : ByteArray} {l : List Sb} {k : Nat} {c : UInt8} (hc : cdAt l k = c) (hd : dupAt single l k) (h : (¬ ∃ j, j < k ∧ (cdAt l j).toNat = c.toNat) ∨ ¬ hasB single c = true) : False := by
  obtain ⟨⟨j, hj, he⟩, h2⟩ := hd
  rw [hc] at he h2
  rcases h with h | h
  · exact h ⟨j, hj, by rw [he]⟩
  · exact h h2
theorem seen_init (l : List Sb) {k : Nat} (hk : k = 0) : ∀ c, c < 256 → (List.replicate 256 false)[c]? = some (decide (∃ j, j < k ∧ (cdAt l j).toNat = c)) := by
  generalize 256 = m
  intro c hc
  rw [List.getElem?_replicate, if_pos hc, decide_eq_false]
  rintro ⟨j, hj, _⟩
  omega
theorem seen_set {l : List Sb} {k : Nat} {c : UInt8} {bs : List Bool} (hc : cdAt l k = c) (hl : bs.length = 256) (h : ∀ x, x < 256 → bs[x]? = some (decide (∃ j, j < k ∧ (cdAt l j).toNat = x))) :
    ∀ x, x < 256 → (bs.set c.toNat true)[x]? = some (decide (∃ j, j < k + 1 ∧ (cdAt l j).toNat = x)) := by
  intro x hx
  rw [List.getElem?_set]
  by_cases hcx : c.toNat = x
  · rw [if_pos hcx, if_pos (by omega)]
    rw [decide_eq_true (⟨k, by omega, by rw [hc]; exact hcx⟩ : ∃ j, j < k + 1 ∧ (cdAt l j).toNat = x)]
  · rw [if_neg hcx, h x hx]
    congr 1
    rw [Bool.eq_iff_iff, decide_eq_true_iff, decide_eq_true_iff]
    constructor
    · rintro ⟨j, hj, he⟩; exact ⟨j, by omega, he⟩
    · rintro ⟨j, hj, he⟩
      rcases Nat.lt_succ_iff_lt_or_eq.1 hj with h1 | rfl
      · exact ⟨j, h1, he⟩
      · rw [hc] at he; exact absurd he hcx
theorem cells_set {bs : List Bool} {c : Nat} (h : c < bs.length) : (List.take (0 + c * 1) (bs.map Value.bool) ++ (Value.bool true).cells.toList ++ List.drop (0 + c * 1 + 1) (bs.map Value.bool)) = (bs.set c true).map Value.bool := by
  rw [Nat.zero_add, Nat.mul_one, List.map_set, List.set_eq_take_append_cons_drop, if_pos (by simpa using h)]
  simp [Value.cells]
/-- The cells of a place: the fields, the number, the rule. -/
def plC (v : Value) (n : Int) (r : Rl) : List Value := [v, .int .i64 n, .string r.tag, .bool r.must, .bool r.once, .string r.i0, .string r.i1, .string r.codes, .string r.single]
def flC (f : Fl) (B : Option Addr) (c : Nat) : List Value := [.string f.tag, .string f.ind, .string f.data, .slice B f.subs.length c]
/-- What field n of a slice of fields holds. -/
structure FAt (w : World) (v : Value) (n : Nat) (f : Fl) (B : Option Addr) (c : Nat) : Prop where
  ex : ∃ b off len cap, v = .slice (some ⟨b, off, none⟩) len cap ∧ n < len ∧ len ≤ 9223372036854775807 ∧ ∀ i (hi : i < (flC f B c).length), w.cell? ⟨b, off + n * 4 + i, none⟩ = some (flC f B c)[i]
theorem FAt.later {w w' : World} {v : Value} {n : Nat} {f : Fl} {B : Option Addr} {c : Nat} (h : FAt w v n f B c) (hl : Later w w') : FAt w' v n f B c := by
  obtain ⟨b, off, len, cap, h1, h2, h3, h4⟩ := h.ex
  exact ⟨b, off, len, cap, h1, h2, h3, fun i hi => (hl.cell (p := ⟨b, off + n * 4 + i, none⟩) (cell_lt (h4 i hi))).trans (h4 i hi)⟩
theorem fat_of {D : Nat → Prop} {w : World} {v : Value} {fs : List Fl} (h : sliceRd tyFl D w v fs) {n : Nat} (hn : n < fs.length) : ∃ B c, FAt w v n fs[n] B c ∧ fs[n].ok ∧ sliceRd tySb D w (.slice B fs[n].subs.length c) fs[n].subs := by
  obtain ⟨A, c, rfl, h1, h2, h3⟩ := h
  obtain ⟨b, off, rfl, hD, hb, hc⟩ := h3 (by omega)
  obtain ⟨cs, h4, v', rfl, hok, h5⟩ := hc n hn
  obtain ⟨B, c', rfl, h6, h7, h8⟩ := h5
  exact ⟨B, c', ⟨b, off, _, _, rfl, hn, h2, h4⟩, hok, ⟨B, c', rfl, h6, h7, h8⟩⟩
/-- What a variable of type place holds. -/
def PAt (w : World) (q : Nat) (v : Value) (n : Int) (r : Rl) : Prop := ∀ i (hi : i < (plC v n r).length), w.cell? ⟨q, i, none⟩ = some (plC v n r)[i]
theorem pat_own {w : World} {own : List (Nat × Obj)} {ro : List Snap} {q : Nat} {v : Value} {n : Int} {r : Rl} {e : TypeId} {fz : Nat × Nat} (hw : Mem w own ro) (hb : (q, Obj.cells (plC v n r).toArray e fz) ∈ own) : PAt w q v n r :=
  fun i hi => (hw.cell_own hb i).trans (by rw [List.getElem?_toArray]; exact List.getElem?_eq_getElem hi)
theorem PAt.later {w w' : World} {q : Nat} {v : Value} {n : Int} {r : Rl} (h : PAt w q v n r) (hl : Later w w') : PAt w' q v n r := fun i hi => (hl.cell (p := ⟨q, i, none⟩) (cell_lt (h i hi))).trans (h i hi)
end Go.PK

/- Of the proofs of YtbamklefagghcaaGreatDoor; see NOTES.md. -/
namespace Go.PK
open Go Go.RowKit
set_option linter.unusedVariables false
set_option linter.unusedSimpArgs false

/-- A row that the call appends to: nil, or a block with its cells and its capacity. -/
abbrev RowS := Option (Nat × List Value × Nat)
def rowA (r : RowS) : Option Addr := r.map fun x => ⟨x.1, 0, none⟩
def rowC (r : RowS) : Nat := match r with | none => 0 | some x => x.2.2
/-- Its value, with n elements. -/
def rowV (r : RowS) (n : Nat) : Value := .slice (rowA r) n (rowC r)
def rowO (e : TypeId) (r : RowS) : List (Nat × Obj) := match r with | none => [] | some x => [(x.1, .cells x.2.1.toArray e (0, 0))]
/-- It holds the cells xs. -/
def rowOK (size : Nat) (r : RowS) (n : Nat) (xs : List Value) : Prop :=
  xs.length = n * size ∧ match r with | none => n = 0 | some x => n ≤ x.2.2 ∧ x.2.2 ≤ maxLen ∧ x.2.1.length = x.2.2 * size ∧ x.2.1.take (n * size) = xs
theorem rowOK_nil {size : Nat} : rowOK size none 0 [] := ⟨by simp, rfl⟩
/-- A row that was written out. -/
theorem rowOK_lit {size n b : Nat} {cs : List Value} (h : cs.length = n * size) (hm : n ≤ maxLen) : rowOK size (some (b, cs, n)) n cs := ⟨h, Nat.le_refl _, hm, h, by rw [← h, List.take_length]⟩
theorem rowOK.cell {size : Nat} {r : RowS} {n : Nat} {xs : List Value} (h : rowOK size r n xs) {j : Nat} (hj : j < xs.length) : ∃ b cs c, r = some (b, cs, c) ∧ cs[j]? = some xs[j] := by
  obtain ⟨h1, h2⟩ := h
  cases r with
  | none => simp only at h2; subst h2; simp at h1; subst h1; simp at hj
  | some x =>
    obtain ⟨b, cs, c⟩ := x
    obtain ⟨_, _, h3, h4⟩ := h2
    refine ⟨b, cs, c, rfl, ?_⟩
    subst h4
    rw [List.getElem_take, List.getElem?_eq_getElem]

section
variable {w w' : World} {ro : List Snap}
theorem row_owns {own l1 l2 : List (Nat × Obj)} {e : TypeId} {size n : Nat} {r : RowS} {xs : List Value} (hm : Mem w (l1 ++ rowO e r ++ l2) ro) (h : rowOK size r n xs) :
    w.ownsRow 0 e size (rowV r n) n xs := by
  obtain ⟨h1, h2⟩ := h
  refine ⟨h1, ?_⟩
  cases r with
  | none => left; simp only at h2; subst h2; exact ⟨rfl, rfl⟩
  | some x =>
    obtain ⟨b, cs, c⟩ := x
    obtain ⟨h3, h4, h5, h6⟩ := h2
    exact .inr ⟨b, c, cs.toArray, rfl, Nat.zero_le _, hm.own_at (b, _) (by simp [rowO]), h3, h4, by simpa using h5, by simpa using h6⟩
theorem heap_fresh {k : Nat} (h : k < w.heap.size) : k ≠ w.heap.size := by omega
/-- Behind an append. -/
theorem Mem.append {l1 l2 : List (Nat × Obj)} {e : TypeId} {size n n' : Nat} {r : RowS} {v' : Value} {xs' : List Value} (hm : Mem w (l1 ++ rowO e r ++ l2) ro) (h' : w'.ownsRow 0 e size v' n' xs') (hg : w.grownBy w' (rowV r n).ownBlock)
    (hb : v'.ownBlock = (rowV r n).ownBlock ∨ v'.ownBlock = some w.heap.size) : ∃ r', v' = rowV r' n' ∧ rowOK size r' n' xs' ∧ Mem w' (l1 ++ rowO e r' ++ l2) ro := by
  have hkeep : ∀ k, k < w.heap.size → (∀ b cs c, r = some (b, cs, c) → k ≠ b) → w'.heap[k]? = w.heap[k]? := fun k hk hne => hg.block k hk (by
    cases r with
    | none => simp [rowV, rowA, Value.ownBlock]
    | some x => obtain ⟨b, cs, c⟩ := x; simpa [rowV, rowA, Value.ownBlock] using hne b cs c rfl)
  -- the blocks beside the row
  have hside : ∀ p, p ∈ l1 ∨ p ∈ l2 → p.1 < w.heap.size ∧ w.heap[p.1]? = some p.2 ∧ ∀ b cs c, r = some (b, cs, c) → p.1 ≠ b := by
    intro p hp
    have hmem : p ∈ l1 ++ rowO e r ++ l2 := by
      rcases hp with hp | hp <;> simp [hp]
    refine ⟨hm.lt hmem, hm.own_at p hmem, fun b cs c hr he => ?_⟩
    subst hr
    have hnd := hm.own_nd
    simp only [rowO, List.map_append, List.map_cons, List.map_nil] at hnd
    rw [List.nodup_append, List.nodup_append] at hnd
    obtain ⟨⟨_, _, h3⟩, _, h4⟩ := hnd
    rcases hp with hp | hp
    · exact h3 p.1 (List.mem_map_of_mem hp) b (by simp) he
    · exact h4 b (by simp) p.1 (List.mem_map_of_mem hp) he.symm
  have hro_st : ∀ s ∈ ro, w'.os = s.1.os ∧ w'.tape = s.1.tape ∧ w'.output = s.1.output ∧ s.1.heap.size ≤ w'.heap.size := fun s hs => by
    obtain ⟨a1, a2, a3, a4⟩ := hm.ro_st s hs
    exact ⟨hg.os.trans a1, hg.tape.trans a2, hg.output.trans a3, Nat.le_trans a4 hg.size⟩
  have hro_at : ∀ s ∈ ro, ∀ k, s.2 k → k < s.1.heap.size → w'.heap[k]? = s.1.heap[k]? := fun s hs k hk hlt => by
    refine (hkeep k (Nat.lt_of_lt_of_le hlt (hm.ro_st s hs).2.2.2) fun b cs c hr he => ?_).trans (hm.ro_at s hs k hk hlt)
    subst hr
    have := hm.apart (b, Obj.cells cs.toArray e (0, 0)) (by simp [rowO]) s hs (by rw [← he]; exact hk)
    simp only at this
    omega
  have hmid : ∀ b, ((∃ cs c, r = some (b, cs, c)) ∨ b = w.heap.size) → ∀ s ∈ ro, s.2 b → s.1.heap.size ≤ b := fun b hb s hs hd => by
    rcases hb with ⟨cs, c, rfl⟩ | rfl
    · exact hm.apart (b, Obj.cells cs.toArray e (0, 0)) (by simp [rowO]) s hs hd
    · exact (hm.ro_st s hs).2.2.2
  obtain ⟨h1, h2⟩ := h'
  rcases h2 with ⟨rfl, rfl⟩ | ⟨g, cap, cur, rfl, _, hh, hnc, hcm, hcs, htk⟩
  · refine ⟨none, rfl, ⟨h1, rfl⟩, ?_, ?_, hro_st, hro_at, ?_⟩
    · intro p hp
      have hp' : p ∈ l1 ∨ p ∈ l2 := by simpa [rowO] using hp
      obtain ⟨a1, a2, a3⟩ := hside p hp'
      exact (hkeep p.1 a1 a3).trans a2
    · have hnd := hm.own_nd
      simp only [rowO, List.append_nil]
      exact ((List.sublist_append_left l1 (rowO e r)).append (List.Sublist.refl l2) |>.map _).nodup hnd
    · intro p hp s hs hd
      have hp' : p ∈ l1 ∨ p ∈ l2 := by simpa [rowO] using hp
      exact hm.apart p (by rcases hp' with h | h <;> simp [h]) s hs hd
  · have hgb : (∃ cs c, r = some (g, cs, c)) ∨ g = w.heap.size := by
      rcases hb with hb | hb
      · cases r with
        | none => simp [rowV, rowA, Value.ownBlock] at hb
        | some x => obtain ⟨b, cs, c⟩ := x; simp [rowV, rowA, Value.ownBlock] at hb; subst hb; exact .inl ⟨cs, c, rfl⟩
      · simp [Value.ownBlock] at hb; exact .inr hb
    have hgne : ∀ p, p ∈ l1 ∨ p ∈ l2 → p.1 ≠ g := fun p hp he => by
      obtain ⟨a1, _, a3⟩ := hside p hp
      rcases hgb with ⟨cs, c, hr⟩ | hg'
      · exact a3 g cs c hr he
      · omega
    refine ⟨some (g, cur.toList, cap), by simp [rowV, rowA, rowC], ⟨h1, hnc, hcm, by simpa using hcs, htk⟩, ?_, ?_, hro_st, hro_at, ?_⟩
    · intro p hp
      simp only [rowO, List.mem_append, List.mem_singleton] at hp
      rcases hp with (hp | rfl) | hp
      · obtain ⟨a1, a2, a3⟩ := hside p (.inl hp); exact (hkeep p.1 a1 a3).trans a2
      · simpa using hh
      · obtain ⟨a1, a2, a3⟩ := hside p (.inr hp); exact (hkeep p.1 a1 a3).trans a2
    · have hnd := hm.own_nd
      simp only [List.map_append] at hnd
      rw [List.nodup_append, List.nodup_append] at hnd
      obtain ⟨⟨b1, _, _⟩, b2, b3⟩ := hnd
      simp only [rowO, List.map_append, List.map_cons, List.map_nil]
      rw [List.nodup_append, List.nodup_append]
      refine ⟨⟨b1, by simp, fun x hx y hy => ?_⟩, b2, fun x hx y hy => ?_⟩
      · obtain ⟨p, hp, rfl⟩ := List.mem_map.1 hx
        simp only [List.mem_singleton] at hy
        subst hy
        exact hgne p (.inl hp)
      · simp only [List.mem_append, List.mem_singleton] at hx
        rcases hx with hx | rfl
        · exact b3 x (by simp [hx]) y hy
        · obtain ⟨p, hp, rfl⟩ := List.mem_map.1 hy
          exact fun e => hgne p (.inr hp) e.symm
    · intro p hp s hs hd
      simp only [rowO, List.mem_append, List.mem_singleton] at hp
      rcases hp with (hp | rfl) | hp
      · exact hm.apart p (by simp [hp]) s hs hd
      · exact hmid g hgb s hs hd
      · exact hm.apart p (by simp [hp]) s hs hd
end

section
variable {P : Program} {n : Nat} {l : List (Nat × Value)} {own : List (Nat × Obj)} {ro : List Snap} {lops : List Oper} {Q : Exit → Act → World → Prop} {K : Act → World → Prop}
  {rest : List (Option Bool × Nat)} {k : Option Bool} {i d : Nat} {op : Op} {ty : TypeId} {pos : String} {af : Array Edge} {x y : Operand} {t : TypeId}
/-- 'append(s, news...)' onto a row of the call's own. -/
theorem x_append {e : TypeId} {z : Value} {size bytes m len b2 o2 c2 : Nat} {xs news : List Value} (l1 : List (Nat × Obj)) {l2 : List (Nat × Obj)} (r : RowS) (ho : lops[i]? = some ⟨some d, .call ⟨.builtin .append, #[x, y], #[t, t]⟩, ty, pos, af, none⟩) (hd : decide (d < n) = true)
    (hx : ev l x = some (rowV r len)) (hy : ev l y = some (.slice (some ⟨b2, o2, none⟩) m c2)) (hown : own = l1 ++ rowO e r ++ l2) (hr : rowOK size r len xs)
    (ht : P.underlying t = some (.slice e)) (hi : (P.info? e).map (fun j => (j.zero, j.size, j.bytes)) = some (some z, size, bytes)) (hz : (decide (z.cells.size = size) && decide (0 < size)) = true)
    (hl : news.length = m * size) (hat : ∀ j (hj : j < news.length), At own ro b2 (o2 + j) news[j]) (h1 : news.all (fun u => u.oneCell') = true)
    (hb1 : len + m ≤ maxLen) (hb2 : (len + m) * bytes ≤ 140737488355328)
    (h : ∀ r', rowOK size r' (len + m) (xs ++ news) → WX P lops.toArray Q K rest n ((d, rowV r' (len + m)) :: l) (l1 ++ rowO e r' ++ l2) ro) : WX P lops.toArray Q K ((none, i) :: rest) n l own ro := by
  subst hown
  intro a w ha hw
  have hd' : d < n := of_decide_eq_true hd
  have hw1 := go_none (lops := lops) (n := n) (l := l) (o := ⟨some d, .call ⟨.builtin .append, #[x, y], #[t, t]⟩, ty, pos, af, none⟩) rfl a ha
  simp only [wpX, List.getElem?_toArray, ho]
  intro w' hl'
  rw [if_pos hw1]
  have hM := hw.later hl'
  obtain ⟨inf, hi1, hi2⟩ := Option.map_eq_some_iff.1 hi
  simp only [Prod.mk.injEq] at hi2
  obtain ⟨hiz, his, hib⟩ := hi2
  simp only [Bool.and_eq_true, decide_eq_true_eq] at hz
  obtain ⟨v', w2, hrun, h2, h3, _, h5⟩ := run_append_own_at (P := P) w' 0 t ty e inf z size bytes ht hi1 hiz his hib hz.1 hz.2 (rowV r len) len xs (row_owns (own := []) hM hr) ⟨b2, o2, none⟩ m c2 news hl
    (fun j u hu => by
      obtain ⟨hj, rfl⟩ := List.getElem?_eq_some_iff.1 hu
      rw [mk_add]
      exact hat j hj w' hM) (by simpa using h1) hb1 hb2 (Nat.zero_le _)
  obtain ⟨r', rfl, hok, hM2⟩ := hM.append h2 h3 h5
  unfold Oper.wp execOp
  simp only [resolve, invoke, builtin, Sem.run_bind, Sem.run_pure, Result.andThen_ok, List.map_toArray, List.map_cons, List.map_nil, ha.eval hx, ha.eval hy, hrun]
  exact h r' hok _ _ (ha.put _ hd') hM2
end
end Go.PK

/- Of the proofs of YtbamklefagghcaaGreatDoor; see NOTES.md. -/
namespace Go.PK
open Go Go.RowKit Go.Maps
set_option linter.unusedVariables false
set_option linter.unusedSimpArgs false

/-- A map's entries say f. -/
structure MapF (P : Program) (kt : TypeId) (es : Array MapEntry) (f : Value → Option Value) : Prop where
  key : ∀ (i : Nat) (e : MapEntry), es[i]? = some e → ∃ kl, keyOf P kt e.key = some kl
  val : ∀ (i : Nat) (e : MapEntry), es[i]? = some e → f e.key = some e.val
  has : ∀ x v, f x = some v → ∃ (i : Nat) (e : MapEntry), es[i]? = some e ∧ e.key = x ∧ e.val = v
  one : ∀ (i j : Nat) (e e' : MapEntry), es[i]? = some e → es[j]? = some e' → e.key = e'.key → i = j
noncomputable def fupd (f : Value → Option Value) (x v : Value) : Value → Option Value := open Classical in fun y => if y = x then some v else f y
theorem fupd_self {f : Value → Option Value} {x v : Value} : fupd f x v x = some v := if_pos rfl
theorem fupd_ne {f : Value → Option Value} {x v y : Value} (h : y ≠ x) : fupd f x v y = f y := if_neg h
theorem MapF.empty {P : Program} {kt : TypeId} : MapF P kt #[] (fun _ => none) := ⟨by simp, by simp, by simp, by simp⟩

section
variable {P : Program} {kt : TypeId} {es : Array MapEntry} {f : Value → Option Value}
theorem MapF.find (h : MapF P kt es f) (K : Keyed P kt) {x : Value} {lx : Lit} (hx : keyOf P kt x = some lx) (w : World) :
    ((Instr.findKey kt x es.toList).run P w = .ok none w ∧ f x = none) ∨ ∃ (j : Nat) (e : MapEntry), (Instr.findKey kt x es.toList).run P w = .ok (some (j, e.val)) w ∧ es[j]? = some e ∧ e.key = x ∧ f x = some e.val := by
  rcases K.find w hx es.toList (fun e he => by
    obtain ⟨i, hi⟩ := List.getElem?_of_mem he
    exact h.key i e (by simpa using hi)) with ⟨h1, h2⟩ | ⟨j, e, h1, h2, h3⟩
  · refine .inl ⟨h1, ?_⟩
    cases hf : f x with
    | none => rfl
    | some v =>
      obtain ⟨i, e, h3, h4, _⟩ := h.has x v hf
      exact absurd h4 (h2 e (by rw [← Array.getElem?_toList] at h3; exact List.mem_of_getElem? h3))
  · have h2' : es[j]? = some e := by simpa using h2
    exact .inr ⟨j, e, h1, h2', h3, h3 ▸ h.val j e h2'⟩
theorem MapF.push (h : MapF P kt es f) {x v : Value} {lx : Lit} {born : Nat} (hx : keyOf P kt x = some lx) (hf : f x = none) : MapF P kt (es.push ⟨x, v, born⟩) (fupd f x v) := by
  have old : ∀ (i : Nat) (e : MapEntry), es[i]? = some e → e.key ≠ x := fun i e he hk => by
    have := h.val i e he
    rw [hk, hf] at this
    cases this
  have cases' : ∀ (i : Nat) (e : MapEntry), (es.push ⟨x, v, born⟩)[i]? = some e → (es[i]? = some e ∧ i < es.size) ∨ (i = es.size ∧ e = ⟨x, v, born⟩) := fun i e he => by
    rw [Array.getElem?_push] at he
    split at he
    · cases he; exact .inr ⟨‹_›, rfl⟩
    · refine .inl ⟨he, ?_⟩
      exact (Array.getElem?_eq_some_iff.1 he).1
  refine ⟨fun i e he => ?_, fun i e he => ?_, fun y u hy => ?_, fun i j e e' he he' hk => ?_⟩
  · rcases cases' i e he with ⟨h1, _⟩ | ⟨_, rfl⟩
    · exact h.key i e h1
    · exact ⟨_, hx⟩
  · rcases cases' i e he with ⟨h1, _⟩ | ⟨_, rfl⟩
    · rw [fupd_ne (old i e h1)]; exact h.val i e h1
    · exact fupd_self
  · by_cases hyx : y = x
    · subst hyx
      rw [fupd_self] at hy
      cases hy
      exact ⟨es.size, _, by rw [Array.getElem?_push, if_pos rfl], rfl, rfl⟩
    · rw [fupd_ne hyx] at hy
      obtain ⟨i, e, h1, h2, h3⟩ := h.has y u hy
      have hi := (Array.getElem?_eq_some_iff.1 h1).1
      exact ⟨i, e, by rw [Array.getElem?_push, if_neg (by omega)]; exact h1, h2, h3⟩
  · rcases cases' i e he with ⟨h1, _⟩ | ⟨hi, rfl⟩ <;> rcases cases' j e' he' with ⟨h2, _⟩ | ⟨hj, rfl⟩
    · exact h.one i j e e' h1 h2 hk
    · exact absurd hk (old i e h1)
    · exact absurd hk.symm (old j e' h2)
    · omega
theorem MapF.put (h : MapF P kt es f) {x v : Value} {lx : Lit} {j : Nat} {e0 : MapEntry} (hx : keyOf P kt x = some lx) (h0 : es[j]? = some e0) (hk0 : e0.key = x) :
    MapF P kt (es.modify j fun e => { e with key := x, val := v }) (fupd f x v) := by
  have cases' : ∀ (i : Nat) (e : MapEntry), (es.modify j fun e => { e with key := x, val := v })[i]? = some e → (es[i]? = some e ∧ i ≠ j) ∨ (i = j ∧ e.key = x ∧ e.val = v) := fun i e he => by
    rw [Array.getElem?_modify] at he
    split at he
    · subst_vars
      rw [h0] at he
      cases he
      exact .inr ⟨rfl, rfl, rfl⟩
    · exact .inl ⟨he, fun e => by simp_all⟩
  have old : ∀ (i : Nat) (e : MapEntry), es[i]? = some e → i ≠ j → e.key ≠ x := fun i e he hne hk => hne (h.one i j e e0 he h0 (hk.trans hk0.symm))
  refine ⟨fun i e he => ?_, fun i e he => ?_, fun y u hy => ?_, fun i j' e e' he he' hk => ?_⟩
  · rcases cases' i e he with ⟨h1, _⟩ | ⟨_, h2, _⟩
    · exact h.key i e h1
    · exact ⟨_, h2 ▸ hx⟩
  · rcases cases' i e he with ⟨h1, h2⟩ | ⟨_, h2, h3⟩
    · rw [fupd_ne (old i e h1 h2)]; exact h.val i e h1
    · rw [h2, h3]; exact fupd_self
  · by_cases hyx : y = x
    · subst hyx
      rw [fupd_self] at hy
      cases hy
      exact ⟨j, { e0 with key := y, val := v }, by rw [Array.getElem?_modify, if_pos rfl, h0]; rfl, rfl, rfl⟩
    · rw [fupd_ne hyx] at hy
      obtain ⟨i, e, h1, h2, h3⟩ := h.has y u hy
      have hne : j ≠ i := fun e1 => by subst e1; rw [h0] at h1; cases h1; exact hyx (h2.symm.trans hk0)
      exact ⟨i, e, by rw [Array.getElem?_modify, if_neg hne]; exact h1, h2, h3⟩
  · rcases cases' i e he with ⟨h1, h2⟩ | ⟨hi, h2, _⟩ <;> rcases cases' j' e' he' with ⟨h3, h4⟩ | ⟨hj, h4, _⟩
    · exact h.one i j' e e' h1 h3 hk
    · exact absurd (hk.trans h4) (old i e h1 h2)
    · exact absurd (hk.symm.trans h2) (old j' e' h3 h4)
    · omega
end

theorem turned_obj {w : World} {g : Nat} {o o' : Obj} (h : w.heap[g]? = some o) : Turned w { w with heap := w.heap.setIfInBounds g o' } g o' where
  os := rfl
  tape := rfl
  output := rfl
  size := by simp
  at_ := by
    show (w.heap.setIfInBounds g o')[g]? = some o'
    rw [Array.getElem?_setIfInBounds_self_of_lt (heap_lt h)]
  other := fun k hk => by
    show (w.heap.setIfInBounds g o')[k]? = w.heap[k]?
    rw [Array.getElem?_setIfInBounds_ne (fun e => hk e.symm)]

section
variable {P : Program} {n : Nat} {l : List (Nat × Value)} {own : List (Nat × Obj)} {ro : List Snap} {lops : List Oper} {Q : Exit → Act → World → Prop} {K : Act → World → Prop}
  {rest : List (Option Bool × Nat)} {k : Option Bool} {i d : Nat} {op : Op} {ty : TypeId} {pos : String} {af : Array Edge} {x y m : Operand} {t kt e : TypeId} {b : Nat} {es : Array MapEntry} {clock : Nat} {f : Value → Option Value}
theorem x_makeMap (ho : lops[i]? = some ⟨some d, .makeMap t none, ty, pos, af, none⟩) (hk : (k == some true) = false) (hd : decide (d < n) = true)
    (h : ∀ b, WX P lops.toArray Q K rest n ((d, .map (some b)) :: l) ((b, .map #[] 0) :: own) ro) : WX P lops.toArray Q K ((k, i) :: rest) n l own ro :=
  x_new (f := fun b => .map (some b)) ho (go_none rfl) rfl hk hd (fun a w ha hw => by simp [execOp, Instr.makeMap]) h
theorem v_lookup {u v z : Value} {lx : Lit} (ht : P.underlying t = some (.map kt e)) (KK : Keyed P kt) (hz : (P.info? e).bind (·.zero) = some z) (hm : ev l m = some (.map (some b))) (hx : ev l x = some u) (hkey : keyOf P kt u = some lx)
    (hb : (b, Obj.map es clock) ∈ own) (hf : MapF P kt es f) (hv : (f u).getD z = v) : OpV P n l own ro (.lookup t m x false) ty v := by
  intro A w o ha hw ho _
  have hg := hw.own_at _ hb
  subst hv
  rcases hf.find KK hkey w with ⟨h1, h2⟩ | ⟨j, e, h1, h2, h3, h4⟩
  · simp [execOp, ho, ha.eval hm, ha.eval hx, Instr.lookup, run_underlying ht, MapKept.run_getObj_map hg, KK.check w _ hkey, h1, run_zeroValue hz, h2, Result.andThen]
  · simp [execOp, ho, ha.eval hm, ha.eval hx, Instr.lookup, run_underlying ht, MapKept.run_getObj_map hg, KK.check w _ hkey, h1, h4, Result.andThen]
theorem x_mapUpdate {u v : Value} {lx : Lit} (l1 : List (Nat × Obj)) {l2 : List (Nat × Obj)} (ho : lops[i]? = some ⟨none, .mapUpdate t m x y, ty, pos, af, none⟩) (hm : ev l m = some (.map (some b))) (hx : ev l x = some u) (hy : ev l y = some v)
    (ht : P.underlying t = some (.map kt e)) (KK : Keyed P kt) (hkey : keyOf P kt u = some lx) (hown : own = l1 ++ (b, .map es clock) :: l2) (hf : MapF P kt es f)
    (h : ∀ es' clock', MapF P kt es' (fupd f u v) → WX P lops.toArray Q K rest n l (l1 ++ (b, .map es' clock') :: l2) ro) : WX P lops.toArray Q K ((none, i) :: rest) n l own ro := by
  subst hown
  intro a w ha hw
  have hw1 := go_none (lops := lops) (n := n) (l := l) (o := ⟨none, .mapUpdate t m x y, ty, pos, af, none⟩) rfl a ha
  simp only [wpX, List.getElem?_toArray, ho]
  intro w' hl
  rw [if_pos hw1]
  have hM := hw.later hl
  have hg : w'.heap[b]? = some (.map es clock) := hM.own_at (b, _) (by simp)
  have hrun : ∃ es' clock', MapF P kt es' (fupd f u v) ∧ (Instr.mapUpdate t (.map (some b)) u v).run P w' = .ok () { w' with heap := w'.heap.setIfInBounds b (.map es' clock') } := by
    rcases hf.find KK hkey w' with ⟨h1, h2⟩ | ⟨j, e0, h1, h2, h3, h4⟩
    · exact ⟨_, clock + 1, hf.push (v := v) (born := clock) hkey h2, by simp [Instr.mapUpdate, run_underlying ht, MapKept.run_getObj_map hg, KK.check w' false hkey, h1, MapKept.run_setObj_map _ hg, Result.andThen]⟩
    · refine ⟨_, clock, hf.put (v := v) hkey h2 h3, ?_⟩
      have hs : (Instr.keyThatStays (((es[j]?).map (·.key)).getD u) u).run P w' = .ok u w' := by
        rw [h2]; simp only [Option.map_some, Option.getD_some, h3]; exact KK.stays w' hkey
      simp only [Instr.mapUpdate, Sem.run_bind, run_underlying ht, Result.andThen_ok, MapKept.run_getObj_map hg, KK.check w' false hkey, h1, hs, MapKept.run_setObj_map _ hg]
  obtain ⟨es', clock', hf', hr⟩ := hrun
  unfold Oper.wp
  have hr2 : (execOp a.eval ⟨none, .mapUpdate t m x y, ty, pos, af, none⟩).run P w' = .ok .skip { w' with heap := w'.heap.setIfInBounds b (.map es' clock') } := by
    simp only [execOp, ha.eval hm, ha.eval hx, ha.eval hy, Sem.run_bind, hr, Result.andThen_ok, Sem.run_pure]
  rw [hr2]
  show wpX P lops.toArray Q K rest (a.put none undef) _
  exact h es' clock' hf' a _ ha (hM.turn (turned_obj hg))
end
/-- A function is entered with the caller's own blocks (those that it turns). -/
theorem enter_in {P : Program} {n : Nat} {own : List (Nat × Obj)} {ro : List Snap} {fn : Func} {R : Ending → World → Prop} {f : FuncId} {c : Code} {vs : List Value} {w : World} (hm : Mem w own ro) (hf : P.funcs[f]? = some fn) (hb : fn.body = some c) (hn : fn.ntmps = n) (hv : decide (vs.length ≤ n) = true)
    (h : W P c (bodyPost P fn R) n (slots 0 vs) own ro) : Calls P f vs.toArray w R := by
  have hv' := of_decide_eq_true hv
  refine calls_of_wp hf hb (h _ w ⟨by simp [hn]; omega, rfl, fun s v hs => ?_⟩ hm)
  obtain ⟨_, h2⟩ := slots_lookup _ _ _ _ hs
  simp only [Nat.sub_zero] at h2
  have hlt : s < vs.length := (List.getElem?_eq_some_iff.1 h2).1
  show (vs.toArray ++ _)[s]? = some v
  rw [Array.getElem?_append_left (by simpa using hlt)]
  simpa using h2
section
variable {P : Program} {n : Nat} {l : List (Nat × Value)} {own : List (Nat × Obj)} {ro : List Snap} {lops : List Oper} {Q : Exit → Act → World → Prop} {K : Act → World → Prop}
  {rest : List (Option Bool × Nat)} {k : Option Bool} {i d : Nat} {ty : TypeId} {pos : String} {af : Array Edge}
/-- A call of a function value that turns the caller's own blocks: 'τ' is what is new. -/
theorem x_turn {τ : Type} {f : FuncId} {fn : Func} {xs : Array Operand} {tys : Array TypeId} {c : Operand} {vs : List Value} {fst cap : Array Value} {v : Value} (R : τ → Prop) (O : τ → List (Nat × Obj)) (ho : lops[i]? = some ⟨some d, .call ⟨.value c, xs, tys⟩, ty, pos, af, none⟩) (hd : decide (d < n) = true)
    (hcal : ev l c = some (.func (.func f) fst cap)) (hf : P.funcs[f]? = some fn) (hbody : (!(fn.name == "runtime.NumGoroutine") && fn.body.isSome) = true) (hx : evs l xs.toList = some vs)
    (hc : ∀ w, Mem w own ro → Calls P f (fst ++ vs.toArray ++ cap) w fun e w' => e = .returned v ∧ ∃ x, R x ∧ Mem w' (O x) ro)
    (h : ∀ x, R x → WX P lops.toArray Q K rest n ((d, v) :: l) (O x) ro) : WX P lops.toArray Q K ((none, i) :: rest) n l own ro := by
  intro a w ha hw
  have hd' : d < n := of_decide_eq_true hd
  have hw1 := go_none (lops := lops) (n := n) (l := l) (o := ⟨some d, .call ⟨.value c, xs, tys⟩, ty, pos, af, none⟩) rfl a ha
  simp only [wpX, List.getElem?_toArray, ho]
  intro w' hl
  rw [if_pos hw1]
  unfold Oper.wp
  rw [run_callv rfl ha hcal hf hbody hx]
  refine Calls.mono (hc w' (hw.later hl)) fun e w2 he => ?_
  obtain ⟨rfl, x, hr, hm⟩ := he
  exact h x hr _ w2 (ha.put v hd') hm
end
end Go.PK

/- Of the proofs of YtbamklefagghcaaGreatDoor; see NOTES.md. -/
namespace Go.PK
open Go Go.RowKit
set_option linter.unusedVariables false
set_option linter.unusedSimpArgs false

def cellsL : Value → List Value
  | .agg cs => cs.toList
  | v => [v]
theorem cellsL_eq (v : Value) : v.cells.toList = cellsL v := by cases v <;> rfl
theorem cellsL_len (v : Value) : v.cells.size = (cellsL v).length := by rw [← cellsL_eq]; simp
def putL : List Value → Nat → List Value → List Value
  | [], _, _ => []
  | c :: cs, 0, [] => c :: cs
  | _ :: cs, 0, v :: vs => v :: putL cs 0 vs
  | c :: cs, n + 1, vs => c :: putL cs n vs
theorem putL_nil : ∀ (cs : List Value) (n : Nat), putL cs n [] = cs
  | [], n => by cases n <;> rfl
  | c :: cs, 0 => rfl
  | c :: cs, n + 1 => by show c :: putL cs n [] = c :: cs; rw [putL_nil cs n]
theorem putL_cons (v : Value) (vs : List Value) : ∀ (cs : List Value) (n : Nat), putL cs n (v :: vs) = putL (cs.set n v) (n + 1) vs
  | [], n => by cases n <;> rfl
  | c :: cs, 0 => rfl
  | c :: cs, n + 1 => by show c :: putL cs n (v :: vs) = c :: putL (cs.set n v) (n + 1) vs; rw [putL_cons v vs cs n]
theorem putL_len : ∀ (vs cs : List Value) (n : Nat), (putL cs n vs).length = cs.length
  | [], cs, n => by rw [putL_nil]
  | v :: vs, cs, n => by rw [putL_cons, putL_len]; simp
theorem fold_putL (off : Nat) : ∀ (vs : List Value) (s : Nat) (cells : Array Value), (vs.zipIdx s).foldl (fun cs x => cs.setIfInBounds (off + x.2) x.1) cells = (putL cells.toList (off + s) vs).toArray
  | [], s, cells => by simp [putL_nil]
  | v :: vs, s, cells => by
    rw [List.zipIdx_cons, List.foldl_cons, fold_putL off vs (s + 1), putL_cons]
    simp [Nat.add_assoc]
def fillL (pl : Nat → Option (Nat × Nat)) : List Value → List (Nat × Value) → Option (List Value)
  | cells, [] => some cells
  | cells, (i, v) :: r => match pl i with
    | none => none
    | some (off, size) => match Nat.beq (cellsL v).length size && Nat.ble (off + (cellsL v).length) cells.length with
      | true => fillL pl (putL cells off (cellsL v)) r
      | false => none
theorem fill_of_L {pl : Nat → Option (Nat × Nat)} : ∀ (vs : List (Nat × Value)) (cells cs : List Value), fillL pl cells vs = some cs → Instr.fill pl cells.toArray vs = some cs.toArray
  | [], cells, cs, h => by cases h; rfl
  | (i, v) :: r, cells, cs, h => by
    simp only [fillL] at h
    unfold Instr.fill
    split at h
    · cases h
    · rename_i off size hp
      rw [hp]
      split at h
      · rename_i hb
        obtain ⟨h1, h2⟩ := Bool.and_eq_true_iff.1 hb
        have h1 := Nat.eq_of_beq_eq_true h1
        have h2 := Nat.le_of_ble_eq_true h2
        have hn : ¬ ((decide (v.cells.size ≠ size) || decide (off + v.cells.size > cells.toArray.size)) = true) := by
          rw [cellsL_len]; simp only [List.size_toArray, Bool.or_eq_true, decide_eq_true_eq]; omega
        dsimp only
        rw [if_neg hn]
        have : v.cells.zipIdx.foldl (fun cs (x : Value × Nat) => cs.setIfInBounds (off + x.2) x.1) cells.toArray = (putL cells off (cellsL v)).toArray := by
          rw [← Array.foldl_toList, Array.toList_zipIdx, fold_putL, cellsL_eq]; simp
        have h3 := fill_of_L r _ cs h
        rw [← this] at h3
        exact h3
      · cases h

section
variable {P : Program} {n : Nat} {l : List (Nat × Value)} {own : List (Nat × Obj)} {ro : List Snap} {lops : List Oper} {Q : Exit → Act → World → Prop} {K : Act → World → Prop}
  {rest : List (Option Bool × Nat)} {k : Option Bool} {i d : Nat} {op : Op} {ty : TypeId} {pos : String} {af : Array Edge} {x y : Operand} {t : TypeId}
/-- An array that is written out. -/
theorem v_buildArr {parts : List (Nat × Operand)} {vs : List (Nat × Value)} {z : Value} {cs : List Value} {N m : Nat} {e : TypeId} (ht : P.underlying t = some (.array N e)) (hz : (P.info? t).bind (·.zero) = some z)
    (hs : (P.info? e).map (·.size) = some m) (hx : evp l parts = some vs) (hf : fillL (fun j => some (j * m, m)) (cellsL z) vs = some cs) :
    OpV P n l own ro (.build t parts.toArray) ty (.agg cs.toArray) := by
  intro A w o ha hw ho _
  have hparts : (parts.toArray.map fun (i, x) => (i, A.eval x)).toList = vs := by
    rw [Array.toList_map]; exact ha.evps hx
  have hfill := fill_of_L vs (cellsL z) cs hf
  rw [← cellsL_eq] at hfill
  simp only [Array.toArray_toList] at hfill
  simp only [execOp, ho, Instr.build, Sem.run_bind, run_zeroValue hz, Result.andThen_ok, run_underlying ht, run_sizeOf hs, hparts, hfill, Sem.run_pure]
/-- The state is said in other words. -/
theorem x_mem {plan : List (Option Bool × Nat)} {own' : List (Nat × Obj)} {ro' : List Snap} (hm : ∀ w, Mem w own ro → Mem w own' ro') (h : WX P lops.toArray Q K plan n l own' ro') : WX P lops.toArray Q K plan n l own ro :=
  fun a w ha hw => h a w ha (hm w hw)
theorem x_slots {plan : List (Option Bool × Nat)} {l' : List (Nat × Value)} (hs : Sub l' l) (h : WX P lops.toArray Q K plan n l' own ro) : WX P lops.toArray Q K plan n l own ro :=
  fun a w ha hw => h a w (ha.sub hs) hw
theorem x_memW {c : Code} {own' : List (Nat × Obj)} {ro' : List Snap} {Q : Exit → Act → World → Prop} (hm : ∀ w, Mem w own ro → Mem w own' ro') (h : W P c Q n l own' ro') : W P c Q n l own ro :=
  fun a w ha hw => h a w ha (hm w hw)
/-- A struct that is written out. -/
theorem v_buildL {parts : List (Nat × Operand)} {vs : List (Nat × Value)} {fs : Array Field} {z : Value} {cs : List Value} {places : List (Nat × Nat)} (ht : P.underlying t = some (.struct fs)) (hz : (P.info? t).bind (·.zero) = some z)
    (hp : fs.toList.map (fun f => ((P.info? f.type).map fun j => (f.offset, j.size))) = places.map some) (hx : evp l parts = some vs) (hf : fillL (places[·]?) (cellsL z) vs = some cs) :
    OpV P n l own ro (.build t parts.toArray) ty (.agg cs.toArray) := by
  refine v_build (places := places.toArray) ht hz (by simpa using hp) hx ?_
  have := fill_of_L vs (cellsL z) cs hf
  rw [← cellsL_eq] at this
  simpa using this
theorem x_buildSliceL {parts : List (Nat × Operand)} {vs : List (Nat × Value)} {e : TypeId} {z : Value} {cs : List Value} {len m : Nat} (ho : lops[i]? = some ⟨some d, .buildSlice t len parts.toArray, ty, pos, af, none⟩) (hk : (k == some true) = false) (hd : decide (d < n) = true)
    (ht : P.underlying t = some (.slice e)) (hs : (P.info? e).map (·.size) = some m) (hz : (P.info? e).bind (·.zero) = some z) (hlen : (decide (len * m ≤ 2 ^ 24) && decide (0 < len * m)) = true) (hx : evp l parts = some vs)
    (hf : fillL (fun j => some (j * m, m)) ((List.range (len * m)).map (fun i => (cellsL z)[i % (cellsL z).length]!)) vs = some cs)
    (h : ∀ b, WX P lops.toArray Q K rest n ((d, .slice (some ⟨b, 0, none⟩) len len) :: l) ((b, .cells cs.toArray e) :: own) ro) : WX P lops.toArray Q K ((k, i) :: rest) n l own ro := by
  refine x_buildSlice ho hk hd ht hs hz hlen hx (cs := cs.toArray) ?_ h
  have h1 := fill_of_L vs _ cs hf
  have h2 : ((List.range (len * m)).map (fun i => (cellsL z)[i % (cellsL z).length]!)).toArray = (Array.range (len * m)).map (z.cells[· % z.cells.size]!) := by
    apply Array.toList_inj.1
    simp only [Array.toList_map, Array.toList_range]
    refine List.map_congr_left fun j _ => ?_
    rw [cellsL_len, ← cellsL_eq]
    simp [Array.getElem!_eq_getD, Array.getD_eq_getD_getElem?]
  rwa [h2] at h1
theorem w_label {j : Nat} {Q : Exit → Act → World → Prop} (h : S (Q .normal) n l own ro) : W P (.label j) Q n l own ro := fun a w ha hw => wp_label (h a w ha hw)
theorem w_scope {c : Code} {Q : Exit → Act → World → Prop} (h : W P c (Exit.noGoto Q) n l own ro) : W P (.scope c) Q n l own ro := fun a w ha hw => wp_scope_straight (h a w ha hw)
theorem sc_ret {Q : Exit → Act → World → Prop} (h : S (Q .ret) n l own ro) : S (Exit.noGoto Q .ret) n l own ro := h
theorem sc_norm {Q : Exit → Act → World → Prop} (h : S (Q .normal) n l own ro) : S (Exit.noGoto Q .normal) n l own ro := h
theorem sc_exit {id : Nat} {Q : Exit → Act → World → Prop} (h : S (Q (.exit id)) n l own ro) : S (Exit.noGoto Q (.exit id)) n l own ro := h
end
end Go.PK

/- Of the proofs of YtbamklefagghcaaGreatDoor; see NOTES.md. -/
namespace Go.PK
open Go Go.RowKit
set_option linter.unusedVariables false
set_option linter.unusedSimpArgs false

def pbC (x : Pb) : List Value := [.int .i64 x.field, .int .i64 x.kind]
def tf : Nat → Nat | 0 => 41 | 1 => 45 | 2 => 47 | _ => 51
def tk : Nat → Int | 0 => 22 | 1 => 23 | 2 => 24 | _ => 22
def td : Nat → Bool | 0 => false | _ => true
def testL : List Value := [.int .i64 22, .bool false, .func (.func 41) #[] #[], .int .i64 23, .bool true, .func (.func 45) #[] #[], .int .i64 24, .bool true, .func (.func 47) #[] #[], .int .i64 22, .bool true, .func (.func 51) #[] #[]]
theorem testL_at (j : Nat) (hj : j < 4) (i : Nat) (hi : i < 3) : testL[0 + j * 3 + i]? = [Value.int .i64 (tk j), .bool (td j), .func (.func (tf j)) #[] #[]][i]? := by
  match j, hj, i, hi with
  | 0, _, 0, _ | 0, _, 1, _ | 0, _, 2, _ | 1, _, 0, _ | 1, _, 1, _ | 1, _, 2, _ | 2, _, 0, _ | 2, _, 1, _ | 2, _, 2, _ | 3, _, 0, _ | 3, _, 1, _ | 3, _, 2, _ => rfl
/-- Does test j fail? -/
noncomputable def tfail (r : Rl) (fs : List Fl) (f : Fl) (n : Nat) : Nat → Bool
  | 0 => r.once && (fs.take n).any (fun g => decide (g.tag = f.tag))
  | 1 => !hasB r.i0 (byteAt f.ind 0) || !hasB r.i1 (byteAt f.ind 1)
  | 2 => f.subs.any (fun s => !hasB r.codes s.code)
  | _ => dup r.single f.subs
noncomputable def tst (r : Rl) (fs : List Fl) (f : Fl) (n j : Nat) : Bool := (!td j || !ctl f.tag) && tfail r fs f n j
noncomputable def tpb (r : Rl) (fs : List Fl) (f : Fl) (n : Nat) : List Pb := match (List.range 4).find? (tst r fs f n) with | none => [] | some j => [⟨n, tk j⟩]
/-- The problem of field n. -/
noncomputable def fpb (rs : List Rl) (fs : List Fl) (f : Fl) (n : Nat) : List Pb :=
  if shp f = true then match rs.findIdx? (fun r => mtc r.tag f.tag) with
    | none => [⟨n, 20⟩]
    | some i => match rs[i]? with | none => [] | some r => tpb r fs f n
  else [⟨n, 14⟩]
noncomputable def chkF (rs : List Rl) (fs : List Fl) : Nat → List Pb
  | 0 => []
  | k + 1 => chkF rs fs k ++ (match fs[k]? with | none => [] | some f => fpb rs fs f k)
def mpb (fs : List Fl) (r : Rl) : List Pb := if r.must && !fs.any (fun f => mtc r.tag f.tag) then [⟨-1, 21⟩] else []
noncomputable def chkM (rs : List Rl) (fs : List Fl) : Nat → List Pb
  | 0 => chkF rs fs fs.length
  | k + 1 => chkM rs fs k ++ (match rs[k]? with | none => [] | some r => mpb fs r)
/-- What schema.Check returns. -/
noncomputable def chk (rs : List Rl) (fs : List Fl) : List Pb := chkM rs fs rs.length
theorem chkF_succ {rs : List Rl} {fs : List Fl} {k : Nat} (h : k < fs.length) : chkF rs fs (k + 1) = chkF rs fs k ++ fpb rs fs fs[k] k := by simp [chkF, h]
theorem chkM_succ {rs : List Rl} {fs : List Fl} {k : Nat} (h : k < rs.length) : chkM rs fs (k + 1) = chkM rs fs k ++ mpb fs rs[k] := by simp [chkM, h]
theorem fpb_len (rs : List Rl) (fs : List Fl) (f : Fl) (n : Nat) : (fpb rs fs f n).length ≤ 1 := by
  unfold fpb tpb; split
  · split
    · simp
    · split
      · simp
      · split <;> simp
  · simp
theorem mpb_len (fs : List Fl) (r : Rl) : (mpb fs r).length ≤ 1 := by unfold mpb; split <;> simp
theorem chkF_len (rs : List Rl) (fs : List Fl) : ∀ k, (chkF rs fs k).length ≤ k
  | 0 => by simp [chkF]
  | k + 1 => by
    have := chkF_len rs fs k
    simp only [chkF, List.length_append]
    cases h : fs[k]? with
    | none => simp; omega
    | some f => have := fpb_len rs fs f k; simp only; omega
theorem chkM_len (rs : List Rl) (fs : List Fl) : ∀ k, (chkM rs fs k).length ≤ fs.length + k
  | 0 => by have := chkF_len rs fs fs.length; simp only [chkM]; omega
  | k + 1 => by
    have := chkM_len rs fs k
    simp only [chkM, List.length_append]
    cases h : rs[k]? with
    | none => simp; omega
    | some r => have := mpb_len fs r; simp only; omega
theorem row_snoc {r : RowS} {xs : List Pb} {i k : Int} (h : rowOK 2 r (xs.length + 1) (xs.flatMap pbC ++ [.int .i64 i, .int .i64 k])) : rowOK 2 r (xs ++ [(⟨i, k⟩ : Pb)]).length ((xs ++ [(⟨i, k⟩ : Pb)]).flatMap pbC) := by
  rw [List.flatMap_append, List.length_append]; simpa [pbC] using h
theorem row_to {r : RowS} {xs ys : List Pb} (h : rowOK 2 r xs.length (xs.flatMap pbC)) (e : ys = xs) : rowOK 2 r ys.length (ys.flatMap pbC) := e ▸ h

/-- What the map 'there' says once k fields are done, and of the first i rules k+1. -/
def There (rs : List Rl) (fs : List Fl) (k i : Nat) (mf : Value → Option Value) : Prop :=
  ∀ j (hj : j < rs.length), (mf (.int .i64 (j : Nat))).getD (.bool false) = .bool ((fs.take (if j < i then k + 1 else k)).any fun f => mtc rs[j].tag f.tag)
theorem There.init (rs : List Rl) (fs : List Fl) : There rs fs 0 0 (fun _ => none) := fun j hj => by simp
theorem There.next {rs : List Rl} {fs : List Fl} {k i : Nat} {mf : Value → Option Value} (h : There rs fs k i mf) (hi : rs.length ≤ i) : There rs fs (k + 1) 0 mf := fun j hj => by
  rw [h j hj, if_pos (by omega), if_neg (by omega)]
theorem There.step {rs : List Rl} {fs : List Fl} {k i : Nat} {mf : Value → Option Value} {b : Bool} (h : There rs fs k i mf) (hk : k < fs.length) (hi : i < rs.length)
    (hb : b = ((fs.take k).any (fun f => mtc rs[i].tag f.tag) || mtc rs[i].tag fs[k].tag)) : There rs fs k (i + 1) (fupd mf (.int .i64 (i : Nat)) (.bool b)) := fun j hj => by
  by_cases hji : j = i
  · subst hji
    rw [fupd_self, if_pos (by omega), hb, List.take_succ_eq_append_getElem hk, List.any_append]
    simp
  · have hne : Value.int .i64 (j : Nat) ≠ Value.int .i64 (i : Nat) := fun e => by
      injection e with _ e
      omega
    rw [fupd_ne hne, h j hj]
    by_cases h1 : j < i
    · rw [if_pos h1, if_pos (by omega)]
    · rw [if_neg h1, if_neg (by omega)]
theorem wf_i64 {i : Nat} (h : i ≤ 9223372036854775807) : (Lit.int .i64 (i : Nat)).wf = true := by
  simp only [Lit.wf, Bool.and_eq_true, decide_eq_true_eq]
  have h1 : IntKind.i64.min = -9223372036854775808 := by decide
  have h2 : IntKind.i64.max = 9223372036854775807 := by decide
  omega
theorem fidx_some {α : Type} {p : α → Bool} {xs : List α} (h : 0 ≤ fidx p xs) : ∃ i, ∃ hi : i < xs.length, fidx p xs = (i : Nat) ∧ xs.findIdx? p = some i := by
  unfold fidx at h ⊢
  cases hf : xs.findIdx? p with
  | none => simp [hf] at h
  | some i =>
    have := (List.findIdx?_eq_some_iff_getElem.1 hf).1
    exact ⟨i, this, rfl, rfl⟩
theorem fidx_neg {α : Type} {p : α → Bool} {xs : List α} (h : fidx p xs < 0) : xs.findIdx? p = none := by
  unfold fidx at h
  cases hf : xs.findIdx? p with
  | none => rfl
  | some i => simp [hf] at h; omega
theorem fpb_bad {rs : List Rl} {fs : List Fl} {f : Fl} {n : Nat} (h : shp f = false) : fpb rs fs f n = [⟨n, 14⟩] := by unfold fpb; rw [h]; rfl
theorem fpb_tag {rs : List Rl} {fs : List Fl} {f : Fl} {n : Nat} (h : shp f = true) (hf : fidx (fun r => mtc r.tag f.tag) rs < 0) : fpb rs fs f n = [⟨n, 20⟩] := by
  unfold fpb; rw [if_pos h, fidx_neg hf]
theorem fpb_at {rs : List Rl} {fs : List Fl} {f : Fl} {n i : Nat} (h : shp f = true) (hi : i < rs.length) (hf : rs.findIdx? (fun r => mtc r.tag f.tag) = some i) : fpb rs fs f n = tpb rs[i] fs f n := by
  unfold fpb; rw [if_pos h, hf]; simp [hi]
theorem tpb_at {r : Rl} {fs : List Fl} {f : Fl} {n j : Nat} (hj : j < 4) (ht : tst r fs f n j = true) (hno : ∀ i, i < j → tst r fs f n i = false) : tpb r fs f n = [⟨n, tk j⟩] := by
  unfold tpb
  have : (List.range 4).find? (tst r fs f n) = some j := by
    rw [List.find?_range_eq_some]
    exact ⟨ht, by simpa using hj, fun i hi => by simp [hno i hi]⟩
  rw [this]
theorem tpb_none {r : Rl} {fs : List Fl} {f : Fl} {n : Nat} (hno : ∀ i, i < 4 → tst r fs f n i = false) : tpb r fs f n = [] := by
  unfold tpb
  have : (List.range 4).find? (tst r fs f n) = none := by
    rw [List.find?_eq_none]
    intro i hi
    simp [hno i (by simpa using hi)]
  rw [this]
theorem There.at {rs : List Rl} {fs : List Fl} {k i : Nat} {mf : Value → Option Value} (h : There rs fs k i mf) (hi : i < rs.length) : (mf (.int .i64 (i : Nat))).getD (.bool false) = .bool ((fs.take k).any fun f => mtc rs[i].tag f.tag) := by
  rw [h i hi, if_neg (Nat.lt_irrefl i)]
theorem There.last {rs : List Rl} {fs : List Fl} {mf : Value → Option Value} (h : There rs fs fs.length 0 mf) {i : Nat} (hi : i < rs.length) : (mf (.int .i64 (i : Nat))).getD (.bool false) = .bool (fs.any fun f => mtc rs[i].tag f.tag) := by
  rw [h i hi, if_neg (Nat.not_lt_zero i), List.take_length]
end Go.PK

/- Of the proofs of YtbamklefagghcaaGreatDoor; see NOTES.md. -/
namespace Go.PK
open Go Go.RowKit
set_option linter.unusedVariables false
theorem flat_get {α : Type} {f : α → List Value} {m : Nat} (hf : ∀ x, (f x).length = m) : ∀ (xs : List α) (j : Nat) (hj : j < xs.length) (i : Nat), i < m → (xs.flatMap f)[j * m + i]? = (f xs[j])[i]?
  | [], j, hj, _, _ => by simp at hj
  | x :: xs, 0, _, i, hi => by
    rw [List.flatMap_cons, List.getElem?_append_left (by rw [hf]; omega)]; simp
  | x :: xs, j + 1, hj, i, hi => by
    rw [List.flatMap_cons, List.getElem?_append_right (by rw [hf, Nat.add_mul]; omega), hf, show (j + 1) * m + i - m = j * m + i by rw [Nat.add_mul]; omega]
    exact flat_get hf xs j (by simpa using hj) i hi
theorem lit_rd {α : Type} {T : Ty α} {D : Nat → Prop} {f : α → List Value} {w : World} {b c : Nat} {e : TypeId} {cs : List Value} {fz : Nat × Nat} {xs : List α} (hf : ∀ x, (f x).length = T.size) (hb : w.heap[b]? = some (.cells cs.toArray e fz))
    (hcs : cs.take (xs.length * T.size) = xs.flatMap f) (hlen : xs.length ≤ c) (hmx : xs.length ≤ 9223372036854775807) (hD : D b) (hrd : ∀ x ∈ xs, T.rd D w (f x) x) : sliceRd T D w (.slice (some ⟨b, 0, none⟩) xs.length c) xs := by
  refine ⟨_, c, rfl, hlen, hmx, fun h0 => ⟨b, 0, rfl, hD, heap_lt hb, fun j hj => ⟨f xs[j], fun i hi => ?_, hrd _ (List.getElem_mem hj)⟩⟩⟩
  have hi' : i < T.size := by rw [hf] at hi; exact hi
  have h1 := flat_get hf xs j hj i hi'
  have h2 : j * T.size + i < xs.length * T.size := by
    have : (j + 1) * T.size ≤ xs.length * T.size := Nat.mul_le_mul_right _ (by omega)
    rw [Nat.add_mul] at this
    omega
  rw [Nat.zero_add, cell_of_row w b _ cs.toArray e fz hb, List.getElem?_toArray]
  rw [← hcs, List.getElem?_take_of_lt h2] at h1
  rw [h1]
  exact List.getElem?_eq_getElem hi
theorem row_rd {w w' : World} {own : List (Nat × Obj)} {e : TypeId} {r : RowS} {ps : List Pb} (hm : Mem w' (own ++ rowO e r) [(w, fun _ => True)]) (hr : rowOK 2 r ps.length (ps.flatMap pbC)) : sliceRd tyPb (fun b => w.heap.size ≤ b) w' (rowV r ps.length) ps := by
  obtain ⟨h1, h2⟩ := hr
  cases r with
  | none =>
    simp only at h2
    exact ⟨none, 0, by simp [rowV, rowA, rowC], by omega, by omega, fun h => by omega⟩
  | some x =>
    obtain ⟨b, cs, c⟩ := x
    obtain ⟨h3, h4, h5, h6⟩ := h2
    have hmem : (b, Obj.cells cs.toArray e (0, 0)) ∈ own ++ rowO e (some (b, cs, c)) := by simp [rowO]
    refine lit_rd (f := pbC) (T := tyPb) (fun _ => rfl) (hm.own_at _ hmem) h6 h3 (by unfold maxLen at h4; omega) ?_ (fun _ _ => rfl)
    exact hm.apart _ hmem (w, fun _ => True) (by simp) trivial
end Go.PK

/- Of the proofs of YtbamklefagghcaaGreatDoor; see NOTES.md. -/
namespace Go.PK
open Go
/-- The usual rules. -/
def std : List Rl := [
  ⟨⟨#[48, 48, 49]⟩, true, true, ⟨#[]⟩, ⟨#[]⟩, ⟨#[]⟩, ⟨#[]⟩⟩,
  ⟨⟨#[48, 48, 51]⟩, false, true, ⟨#[]⟩, ⟨#[]⟩, ⟨#[]⟩, ⟨#[]⟩⟩,
  ⟨⟨#[48, 48, 53]⟩, false, true, ⟨#[]⟩, ⟨#[]⟩, ⟨#[]⟩, ⟨#[]⟩⟩,
  ⟨⟨#[48, 48, 56]⟩, false, true, ⟨#[]⟩, ⟨#[]⟩, ⟨#[]⟩, ⟨#[]⟩⟩,
  ⟨⟨#[48, 49, 48]⟩, false, true, ⟨#[32]⟩, ⟨#[32]⟩, ⟨#[97, 122]⟩, ⟨#[97]⟩⟩,
  ⟨⟨#[48, 50, 48]⟩, false, false, ⟨#[32]⟩, ⟨#[32]⟩, ⟨#[97, 99, 113, 122]⟩, ⟨#[97, 99]⟩⟩,
  ⟨⟨#[48, 50, 50]⟩, false, false, ⟨#[48, 49, 32]⟩, ⟨#[32]⟩, ⟨#[97, 121, 122]⟩, ⟨#[97]⟩⟩,
  ⟨⟨#[48, 52, 48]⟩, false, true, ⟨#[32]⟩, ⟨#[32]⟩, ⟨#[97, 98, 99, 100, 101]⟩, ⟨#[97, 98, 99, 101]⟩⟩,
  ⟨⟨#[48, 52, 49]⟩, false, false, ⟨#[48, 49, 32]⟩, ⟨#[32]⟩, ⟨#[97, 98, 100, 104]⟩, ⟨#[]⟩⟩,
  ⟨⟨#[48, 56, 50]⟩, false, false, ⟨#[48, 49]⟩, ⟨#[48, 52, 32]⟩, ⟨#[97, 50]⟩, ⟨#[50]⟩⟩,
  ⟨⟨#[49, 48, 48]⟩, false, true, ⟨#[48, 49, 51]⟩, ⟨#[32]⟩, ⟨#[48, 97, 98, 99, 100, 113]⟩, ⟨#[48, 97, 98, 100, 113]⟩⟩,
  ⟨⟨#[49, 49, 48]⟩, false, true, ⟨#[48, 49, 50]⟩, ⟨#[32]⟩, ⟨#[48, 97, 98, 110]⟩, ⟨#[48, 97]⟩⟩,
  ⟨⟨#[50, 52, 53]⟩, true, true, ⟨#[48, 49]⟩, ⟨#[48, 49, 50, 51, 52, 53, 54, 55, 56, 57]⟩, ⟨#[97, 98, 99, 104, 110, 112]⟩, ⟨#[97, 98, 99, 104]⟩⟩,
  ⟨⟨#[50, 52, 54]⟩, false, false, ⟨#[48, 49, 50, 51]⟩, ⟨#[48, 49, 50, 51, 52, 53, 54, 55, 56, 32]⟩, ⟨#[97, 98, 105, 110, 112]⟩, ⟨#[97, 98, 105]⟩⟩,
  ⟨⟨#[50, 53, 48]⟩, false, false, ⟨#[32]⟩, ⟨#[32]⟩, ⟨#[97, 98]⟩, ⟨#[97, 98]⟩⟩,
  ⟨⟨#[50, 54, 48]⟩, false, false, ⟨#[50, 51, 32]⟩, ⟨#[32]⟩, ⟨#[97, 98, 99]⟩, ⟨#[]⟩⟩,
  ⟨⟨#[51, 48, 48]⟩, false, false, ⟨#[32]⟩, ⟨#[32]⟩, ⟨#[97, 98, 99, 101]⟩, ⟨#[98, 101]⟩⟩,
  ⟨⟨#[52, 57, 48]⟩, false, false, ⟨#[48, 49]⟩, ⟨#[32]⟩, ⟨#[97, 118, 120]⟩, ⟨#[120]⟩⟩,
  ⟨⟨#[53, 48, 48]⟩, false, false, ⟨#[32]⟩, ⟨#[32]⟩, ⟨#[97]⟩, ⟨#[97]⟩⟩,
  ⟨⟨#[54, 48, 48]⟩, false, false, ⟨#[48, 49, 51]⟩, ⟨#[48, 49, 50, 51, 52, 53, 54, 55]⟩, ⟨#[48, 97, 98, 99, 100, 116, 118, 120, 121, 122]⟩, ⟨#[48, 97, 98, 100, 116]⟩⟩,
  ⟨⟨#[54, 53, 48]⟩, false, false, ⟨#[48, 49, 50, 32]⟩, ⟨#[48, 49, 50, 51, 52, 53, 54, 55]⟩, ⟨#[48, 97, 118, 120, 121, 122]⟩, ⟨#[48, 97]⟩⟩,
  ⟨⟨#[55, 48, 48]⟩, false, false, ⟨#[48, 49, 51]⟩, ⟨#[50, 32]⟩, ⟨#[48, 97, 98, 99, 100, 113, 116]⟩, ⟨#[48, 97, 98, 100, 113, 116]⟩⟩,
  ⟨⟨#[56, 53, 54]⟩, false, false, ⟨#[48, 49, 50, 51, 52, 32]⟩, ⟨#[48, 49, 50, 56, 32]⟩, ⟨#[117, 121, 122, 51]⟩, ⟨#[51]⟩⟩,
  ⟨⟨#[57, 120, 120]⟩, false, false, ⟨#[48, 49, 50, 51, 52, 53, 54, 55, 56, 57, 32]⟩, ⟨#[48, 49, 50, 51, 52, 53, 54, 55, 56, 57, 32]⟩, ⟨#[48, 49, 50, 51, 52, 53, 54, 55, 56, 57, 97, 98, 99, 100, 101, 102, 103, 104, 105, 106, 107, 108, 109, 110, 111, 112, 113, 114, 115, 116, 117, 118, 119, 120, 121, 122]⟩, ⟨#[]⟩⟩]
end Go.PK

/- Of the proofs of YtbamklefagghcaaGreatDoor; see NOTES.md. -/
namespace Go.PK
open Go Go.RowKit
set_option linter.unusedVariables false
theorem flat_get' {m : Nat} : ∀ (css : List (List Value)) (hf : ∀ x ∈ css, x.length = m) (j : Nat) (hj : j < css.length) (i : Nat), i < m → css.flatten[j * m + i]? = (css[j])[i]?
  | [], _, j, hj, _, _ => by simp at hj
  | x :: xs, hf, 0, _, i, hi => by
    rw [List.flatten_cons, List.getElem?_append_left (by rw [hf x (by simp)]; omega)]; simp
  | x :: xs, hf, j + 1, hj, i, hi => by
    rw [List.flatten_cons, List.getElem?_append_right (by rw [hf x (by simp), Nat.add_mul]; omega), hf x (by simp), show (j + 1) * m + i - m = j * m + i by rw [Nat.add_mul]; omega]
    exact flat_get' xs (fun y hy => hf y (by simp [hy])) j (by simpa using hj) i hi
/-- A row of the cells css that reads as xs. -/
def Reads {α : Type} (T : Ty α) (D : Nat → Prop) (w : World) : List (List Value) → List α → Prop
  | [], [] => True
  | c :: cs, x :: xs => T.rd D w c x ∧ Reads T D w cs xs
  | _, _ => False
theorem Reads.at {α : Type} {T : Ty α} {D : Nat → Prop} {w : World} : ∀ {css : List (List Value)} {xs : List α}, Reads T D w css xs → css.length = xs.length ∧ ∀ j (h1 : j < css.length) (h2 : j < xs.length), T.rd D w css[j] xs[j]
  | [], [], _ => ⟨rfl, fun j h => by simp at h⟩
  | c :: cs, x :: xs, ⟨h, hr⟩ => by
    obtain ⟨e1, e2⟩ := hr.at
    refine ⟨by simp [e1], fun j h1 h2 => ?_⟩
    cases j with
    | zero => exact h
    | succ j => exact e2 j (by simpa using h1) (by simpa using h2)
theorem lits_rd {α : Type} {T : Ty α} {D : Nat → Prop} {w : World} {b n : Nat} {e : TypeId} {cs : List Value} {fz : Nat × Nat} (css : List (List Value)) {xs : List α} (hb : w.heap[b]? = some (.cells cs.toArray e fz))
    (hcs : cs = css.flatten) (hn : n = xs.length) (hmx : xs.length ≤ 9223372036854775807) (hD : D b) (hrd : Reads T D w css xs) : sliceRd T D w (.slice (some ⟨b, 0, none⟩) n n) xs := by
  subst hn
  obtain ⟨e1, e2⟩ := hrd.at
  have hlen : ∀ x ∈ css, x.length = T.size := fun x hx => by
    obtain ⟨j, hj, rfl⟩ := List.mem_iff_getElem.1 hx
    exact T.len (e2 j hj (by omega))
  refine ⟨_, _, rfl, Nat.le_refl _, hmx, fun h0 => ⟨b, 0, rfl, hD, heap_lt hb, fun j hj => ⟨css[j]'(by omega), fun i hi => ?_, e2 j (by omega) hj⟩⟩⟩
  have hi' : i < T.size := by rw [hlen _ (List.getElem_mem _)] at hi; exact hi
  have h1 := flat_get' css hlen j (by omega) i hi'
  rw [Nat.zero_add, cell_of_row w b _ cs.toArray e fz hb, List.getElem?_toArray, hcs, h1]
  exact List.getElem?_eq_getElem hi
theorem ro_heap {w : World} {own : List (Nat × Obj)} {ro : List Snap} {s : Snap} {b : Nat} {o : Obj} (hw : Mem w own ro) (hs : s ∈ ro) (hd : s.2 b) (h : s.1.heap[b]? = some o) : w.heap[b]? = some o :=
  (hw.ro_at s hs b hd (heap_lt h)).trans h

/-! ## A form of 'chk' that can be decided -/
def dupB (single : ByteArray) (l : List Sb) : Bool := (List.range l.length).any fun j => hasB single (cdAt l j) && (List.range j).any fun i => decide (cdAt l i = cdAt l j)
theorem dup_eq (single : ByteArray) (l : List Sb) : dup single l = dupB single l := by
  cases h : dupB single l with
  | true =>
    unfold dupB at h
    simp only [List.any_eq_true, List.mem_range, Bool.and_eq_true, decide_eq_true_eq] at h
    obtain ⟨j, hj, h1, i, hi, h2⟩ := h
    exact dup_yes hj ⟨⟨i, hi, h2⟩, h1⟩
  | false =>
    refine dup_no fun j hj hd => ?_
    obtain ⟨⟨i, hi, h2⟩, h1⟩ := hd
    have : dupB single l = true := by
      unfold dupB
      simp only [List.any_eq_true, List.mem_range, Bool.and_eq_true, decide_eq_true_eq]
      exact ⟨j, hj, h1, i, hi, h2⟩
    rw [h] at this
    cases this
def tfailB (r : Rl) (fs : List Fl) (f : Fl) (n : Nat) : Nat → Bool
  | 0 => r.once && (fs.take n).any (fun g => decide (g.tag = f.tag))
  | 1 => !hasB r.i0 (byteAt f.ind 0) || !hasB r.i1 (byteAt f.ind 1)
  | 2 => f.subs.any (fun s => !hasB r.codes s.code)
  | _ => dupB r.single f.subs
theorem tfail_eq (r : Rl) (fs : List Fl) (f : Fl) (n j : Nat) : tfail r fs f n j = tfailB r fs f n j := by
  match j with
  | 0 | 1 | 2 => rfl
  | _ + 3 => exact dup_eq _ _
def tpbB (r : Rl) (fs : List Fl) (f : Fl) (n : Nat) : List Pb := match (List.range 4).find? (fun j => (!td j || !ctl f.tag) && tfailB r fs f n j) with | none => [] | some j => [⟨n, tk j⟩]
theorem tpb_eq (r : Rl) (fs : List Fl) (f : Fl) (n : Nat) : tpb r fs f n = tpbB r fs f n := by
  unfold tpb tpbB
  have : tst r fs f n = fun j => (!td j || !ctl f.tag) && tfailB r fs f n j := funext fun j => by unfold tst; rw [tfail_eq]
  rw [this]
  all_goals (generalize List.find? _ _ = o; cases o <;> rfl)
def fpbB (rs : List Rl) (fs : List Fl) (f : Fl) (n : Nat) : List Pb :=
  if shp f = true then match rs.findIdx? (fun r => mtc r.tag f.tag) with
    | none => [⟨n, 20⟩]
    | some i => match rs[i]? with | none => [] | some r => tpbB r fs f n
  else [⟨n, 14⟩]
theorem fpb_eq (rs : List Rl) (fs : List Fl) (f : Fl) (n : Nat) : fpb rs fs f n = fpbB rs fs f n := by
  unfold fpb fpbB; simp only [tpb_eq]
  all_goals congr 1
def chkFB (rs : List Rl) (fs : List Fl) : Nat → List Pb
  | 0 => []
  | k + 1 => chkFB rs fs k ++ (match fs[k]? with | none => [] | some f => fpbB rs fs f k)
theorem chkF_eq (rs : List Rl) (fs : List Fl) : ∀ k, chkF rs fs k = chkFB rs fs k
  | 0 => rfl
  | k + 1 => by simp only [chkF, chkFB, chkF_eq rs fs k, fpb_eq]; all_goals congr 1
def chkMB (rs : List Rl) (fs : List Fl) : Nat → List Pb
  | 0 => chkFB rs fs fs.length
  | k + 1 => chkMB rs fs k ++ (match rs[k]? with | none => [] | some r => mpb fs r)
theorem chkM_eq (rs : List Rl) (fs : List Fl) : ∀ k, chkM rs fs k = chkMB rs fs k
  | 0 => chkF_eq rs fs _
  | k + 1 => by
    simp only [chkM, chkMB, chkM_eq rs fs k]
    all_goals congr 1
def chkB (rs : List Rl) (fs : List Fl) : List Pb := chkMB rs fs rs.length
theorem chk_eq (rs : List Rl) (fs : List Fl) : chk rs fs = chkB rs fs := chkM_eq rs fs _

/-! ## The examples -/
def fId : Fl := ⟨⟨#[48, 48, 49]⟩, ⟨#[]⟩, ⟨#[55]⟩, []⟩
def sEmma : Sb := ⟨97, ⟨#[69, 109, 109, 97]⟩⟩
def fEmma : Fl := ⟨⟨#[50, 52, 53]⟩, ⟨#[49, 48]⟩, ⟨#[]⟩, [sEmma]⟩
def fEmma2 : Fl := ⟨⟨#[50, 52, 53]⟩, ⟨#[49, 32]⟩, ⟨#[]⟩, [sEmma]⟩
def fDouble : Fl := ⟨⟨#[50, 52, 53]⟩, ⟨#[49, 48]⟩, ⟨#[]⟩, [⟨97, ⟨#[120]⟩⟩, ⟨97, ⟨#[121]⟩⟩]⟩
def f999 : Fl := ⟨⟨#[57, 57, 57]⟩, ⟨#[32, 55]⟩, ⟨#[]⟩, [⟨113, ⟨#[122]⟩⟩]⟩
def f1a2 : Fl := ⟨⟨#[49, 97, 50]⟩, ⟨#[32, 32]⟩, ⟨#[]⟩, [⟨97, ⟨#[98]⟩⟩]⟩
theorem exA : chk std [fId, fEmma] = [] := by rw [chk_eq]; decide +kernel
theorem exB : chk std [fEmma, fEmma2] = [⟨1, 22⟩, ⟨-1, 21⟩] := by rw [chk_eq]; decide +kernel
theorem exC : chk std [fId, fDouble, f999, f1a2] = [⟨1, 22⟩, ⟨3, 20⟩] := by rw [chk_eq]; decide +kernel
theorem exD : chk std [] = [⟨-1, 21⟩, ⟨-1, 21⟩] := by rw [chk_eq]; decide +kernel
end Go.PK

/- Of the proofs of YtbamklefagghcaaGreatDoor; see NOTES.md. -/
namespace Go.PK
open Go Go.RowKit
set_option linter.unusedVariables false
section
variable {P : Program} {n : Nat} {l : List (Nat × Value)} {own : List (Nat × Obj)} {ro : List Snap} {lops : List Oper} {Q : Exit → Act → World → Prop} {K : Act → World → Prop}
  {rest : List (Option Bool × Nat)} {k : Option Bool} {i d : Nat} {ty t : TypeId} {pos : String} {af : Array Edge}
/-- A call whose new blocks become the caller's own: 'τ' is what is new. -/
theorem x_own {τ : Type} {f : FuncId} {fn : Func} {xs : Array Operand} {tys : Array TypeId} {vs : List Value} (V : τ → Value) (R : τ → Prop) (O : τ → List (Nat × Obj)) (ho : lops[i]? = some ⟨some d, .call ⟨.value (.func f), xs, tys⟩, ty, pos, af, none⟩) (hk : (k == some true) = false) (hd : decide (d < n) = true)
    (hf : P.funcs[f]? = some fn) (hbody : (!(fn.name == "runtime.NumGoroutine") && fn.body.isSome) = true) (hx : evs l xs.toList = some vs)
    (hc : ∀ w, Mem w own ro → Calls P f vs.toArray w fun e w' => ∃ x, e = .returned (V x) ∧ Later w w' ∧ R x ∧ Mem w' (O x) ro)
    (h : ∀ x, R x → WX P lops.toArray Q K rest n ((d, V x) :: l) (O x) ro) : WX P lops.toArray Q K ((k, i) :: rest) n l own ro := by
  intro a w ha hw
  have hd' : d < n := of_decide_eq_true hd
  have hw1 := go_none (lops := lops) (n := n) (l := l) (o := ⟨some d, .call ⟨.value (.func f), xs, tys⟩, ty, pos, af, none⟩) rfl a ha
  have hc' : ∀ w, Mem w own ro → Calls P f ((#[] : Array Value) ++ vs.toArray ++ #[]) w fun e w' => ∃ x, e = .returned (V x) ∧ Later w w' ∧ R x ∧ Mem w' (O x) ro := by simpa using hc
  simp only [wpX, List.getElem?_toArray, ho]
  cases k with
  | none =>
    intro w' hl
    rw [if_pos hw1]
    unfold Oper.wp
    rw [run_callv (fst := #[]) (cap := #[]) rfl ha rfl hf hbody hx]
    refine Calls.mono (hc' w' (hw.later hl)) fun e w2 he => ?_
    obtain ⟨x, rfl, hl2, hr, hm⟩ := he
    exact h x hr _ w2 (ha.put _ hd') hm
  | some b =>
    have : b = false := by cases b <;> simp_all
    subst this
    dsimp only
    rw [if_pos hw1]
    intro w' hl
    unfold Oper.wp
    rw [run_callv (fst := #[]) (cap := #[]) rfl ha rfl hf hbody hx]
    refine Calls.mono (hc' w' (hw.later hl)) fun e w2 he => ?_
    obtain ⟨x, rfl, hl2, hr, hm⟩ := he
    exact ⟨hl2, h x hr _ w2 (ha.put _ hd') hm⟩
/-- A slice that is written out under a guard that holds. -/
theorem x_buildSlice_g {parts : List (Nat × Operand)} {vs : List (Nat × Value)} {e : TypeId} {z : Value} {cs : List Value} {len m j dj : Nat} {want : Bool} (ho : lops[i]? = some ⟨some d, .buildSlice t len parts.toArray, ty, pos, af, some (j, want)⟩) (hj : (lops[j]?).bind (·.dst) = some dj) (hb : l.lookup dj = some (.bool want))
    (hk : (k == some true) = false) (hd : decide (d < n) = true)
    (ht : P.underlying t = some (.slice e)) (hs : (P.info? e).map (·.size) = some m) (hz : (P.info? e).bind (·.zero) = some z) (hlen : (decide (len * m ≤ 2 ^ 24) && decide (0 < len * m)) = true) (hx : evp l parts = some vs)
    (hf : fillL (fun j => some (j * m, m)) ((List.range (len * m)).map (fun i => (cellsL z)[i % (cellsL z).length]!)) vs = some cs)
    (h : ∀ b, WX P lops.toArray Q K rest n ((d, .slice (some ⟨b, 0, none⟩) len len) :: l) ((b, .cells cs.toArray e) :: own) ro) : WX P lops.toArray Q K ((k, i) :: rest) n l own ro :=
  x_new (f := fun b => .slice (some ⟨b, 0, none⟩) len len) ho (go_some rfl hj hb) rfl hk hd (fun A w ha hw => by
    have hparts : (parts.toArray.map fun (i, x) => (i, A.eval x)).toList = vs := by
      rw [Array.toList_map]; exact ha.evps hx
    simp only [Bool.and_eq_true, decide_eq_true_eq] at hlen
    have h1 : ¬ len * m > 2 ^ 24 := by omega
    have h2 : ¬ len * m = 0 := by omega
    have h3 := fill_of_L vs _ cs hf
    have h4 : ((List.range (len * m)).map (fun i => (cellsL z)[i % (cellsL z).length]!)).toArray = (Array.range (len * m)).map (z.cells[· % z.cells.size]!) := by
      apply Array.toList_inj.1
      simp only [Array.toList_map, Array.toList_range]
      refine List.map_congr_left fun j _ => ?_
      rw [cellsL_len, ← cellsL_eq]
      simp [Array.getElem!_eq_getD, Array.getD_eq_getD_getElem?]
    rw [h4] at h3
    simp only [execOp, Instr.buildSlice, Sem.run_bind, run_underlying ht, Result.andThen_ok, run_sizeOf hs, h1, h2, if_false, run_zeroValue hz, Sem.run_pure, hparts, h3, newRow]
    simp) h
end
theorem own_row_rd {α : Type} {T : Ty α} {f : α → List Value} {w : World} {own : List (Nat × Obj)} {ro : List Snap} {e : TypeId} {r : RowS} {n : Nat} {ps : List α} (hm : Mem w own ro) (hin : ∀ p ∈ rowO e r, p ∈ own) (hr : rowOK T.size r n (ps.flatMap f)) (hn : n = ps.length) (hf : ∀ x, (f x).length = T.size) (hrd : ∀ x ∈ ps, T.rd (fun _ => True) w (f x) x) :
    sliceRd T (fun _ => True) w (rowV r n) ps := by
  subst hn
  obtain ⟨h1, h2⟩ := hr
  cases r with
  | none =>
    simp only at h2
    exact ⟨none, 0, by simp [rowV, rowA, rowC], by omega, by omega, fun h => by omega⟩
  | some x =>
    obtain ⟨b, cs, c⟩ := x
    obtain ⟨h3, h4, h5, h6⟩ := h2
    exact lit_rd hf (hm.own_at _ (hin (b, Obj.cells cs.toArray e (0, 0)) (by simp [rowO]))) h6 h3 (by unfold maxLen at h4; simp only at h3 h4; omega) trivial hrd
theorem keep_new {α : Type} {T : Ty α} {wa wb w1 : World} {own own1 : List (Nat × Obj)} {ro ro1 : List Snap} {v : Value} {xs : List α} (h : sliceRd T (fun b => wa.heap.size ≤ b) wb v xs) (hw1 : Mem w1 own1 ro1) (hs : (wb, notOwn own) ∈ ro1) (hm : Mem wa own ro) : sliceRd T (fun _ => True) w1 v xs :=
  h.keep fun k hk hlt => ⟨trivial, hw1.ro_at _ hs k (fun p hp he => by have := hm.lt hp; omega) hlt⟩
theorem Mem.later_of {w w' : World} {own own' : List (Nat × Obj)} {ro ro' : List Snap} (h : Mem w own ro) (h' : Mem w' own' ((w, notOwn own) :: ro')) (hs : ∀ p ∈ own, p ∈ own') : Later w w' := by
  obtain ⟨h1, h2, h3, h4⟩ := h'.ro_st _ (.head _)
  refine ⟨h1, h2, h3, h4, fun k hk => ?_⟩
  by_cases hp : ∃ p ∈ own, p.1 = k
  · obtain ⟨p, hp, rfl⟩ := hp
    exact (h'.own_at p (hs p hp)).trans (h.own_at p hp).symm
  · exact h'.ro_at _ (.head _) k (fun p hp' he => hp ⟨p, hp', he⟩) hk
end Go.PK

/- Of the proofs of YtbamklefagghcaaGreatDoor; see NOTES.md. -/
/-! Rows whose elements lie in other blocks; the memory is fixed where the ways turn. -/
namespace Go.PK
open Go Go.RowKit
set_option linter.unusedVariables false
section
variable {P : Program} {n : Nat} {l : List (Nat × Value)} {own own' : List (Nat × Obj)} {ro : List Snap} {lops : List Oper} {Q : Exit → Act → World → Prop} {K : Act → World → Prop} {c : Code} {plan : List (Option Bool × Nat)}
theorem Mem.fix {w : World} (h : Mem w own ro) (hs : own'.Sublist own) : Mem w own' ((w, notOwn own') :: ro) := (h.less hs (fun s hs => hs)).snap
/-- From here on the memory is that of w0, and what is no longer the call's own is only read. -/
theorem s_fix (own' : List (Nat × Obj)) (hs : own'.Sublist own) (h : ∀ w0, Mem w0 own ro → S K n l own' ((w0, notOwn own') :: ro)) : S K n l own ro :=
  fun a w ha hw => h w hw a w ha (hw.fix hs)
theorem w_fix (own' : List (Nat × Obj)) (hs : own'.Sublist own) (h : ∀ w0, Mem w0 own ro → W P c Q n l own' ((w0, notOwn own') :: ro)) : W P c Q n l own ro :=
  fun a w ha hw => h w hw a w ha (hw.fix hs)
end
section
variable {P : Program} {n : Nat} {l : List (Nat × Value)} {own : List (Nat × Obj)} {ro : List Snap} {lops : List Oper} {Q : Exit → Act → World → Prop} {K : Act → World → Prop}
  {rest : List (Option Bool × Nat)} {k : Option Bool} {i d : Nat} {ty : TypeId} {pos : String} {af : Array Edge}
/-- A call under a guard that holds. -/
theorem x_call_g {f : FuncId} {fn : Func} {xs : Array Operand} {tys : Array TypeId} {vs : List Value} {j dj : Nat} {want : Bool} (ho : lops[i]? = some ⟨some d, .call ⟨.value (.func f), xs, tys⟩, ty, pos, af, some (j, want)⟩) (hj : (lops[j]?).bind (·.dst) = some dj) (hb : l.lookup dj = some (.bool want)) (hk : (k == some true) = false) (hd : decide (d < n) = true)
    (hf : P.funcs[f]? = some fn) (hbody : (!(fn.name == "runtime.NumGoroutine") && fn.body.isSome) = true) (hx : evs l xs.toList = some vs) {R : Value → World → World → Prop}
    (hc : ∀ w, Mem w own ro → Calls P f vs.toArray w fun e w' => ∃ v, e = .returned v ∧ Later w w' ∧ R v w w')
    (h : ∀ v w1 w2, Mem w1 own ro → Later w1 w2 → R v w1 w2 → WX P lops.toArray Q K rest n ((d, v) :: l) own ((w2, notOwn own) :: ro)) : WX P lops.toArray Q K ((k, i) :: rest) n l own ro :=
  x_call_core (fst := #[]) (cap := #[]) ho (go_some rfl hj hb) rfl rfl hk hd rfl hf hbody hx (by simpa using hc) h
/-- A call of a function value that hands over new memory. -/
theorem x_cln {f : FuncId} {fn : Func} {xs : Array Operand} {tys : Array TypeId} {c : Operand} {vs : List Value} (ho : lops[i]? = some ⟨some d, .call ⟨.value c, xs, tys⟩, ty, pos, af, none⟩) (hk : (k == some true) = false) (hd : decide (d < n) = true)
    (hcal : ev l c = some (.func (.func f) #[] #[])) (hf : P.funcs[f]? = some fn) (hbody : (!(fn.name == "runtime.NumGoroutine") && fn.body.isSome) = true) (hx : evs l xs.toList = some vs) {R : Value → World → World → Prop}
    (hc : ∀ w, Mem w own ro → Calls P f vs.toArray w fun e w' => ∃ v, e = .returned v ∧ Later w w' ∧ R v w w')
    (h : ∀ v w1 w2, Mem w1 own ro → Later w1 w2 → R v w1 w2 → WX P lops.toArray Q K rest n ((d, v) :: l) own ((w2, notOwn own) :: ro)) : WX P lops.toArray Q K ((k, i) :: rest) n l own ro :=
  x_call_core (fst := #[]) (cap := #[]) ho (go_none rfl) rfl rfl hk hd hcal hf hbody hx (by simpa using hc) h
end
/-- The blocks that the call has made, beside its own. -/
def newD (w : World) (own : List (Nat × Obj)) : Nat → Prop := fun b => w.heap.size ≤ b ∧ notOwn own b
theorem Kept.frz {w w0 ws : World} {own own' ownh : List (Nat × Obj)} {ro : List Snap} (h : Mem w0 own ro) (hsub : own'.Sublist own) (hs : (ws, notOwn ownh) ∈ ro) : Kept (newD w ownh) (newD w own') ws w0 :=
  fun k hk hlt => ⟨⟨hk.1, fun p hp he => by
    have h1 := h.apart p (hsub.subset hp) _ hs (by rw [he]; exact hk.2)
    simp only at h1; omega⟩, h.ro_at _ hs k hk.2 hlt⟩
/-- What a call has made, at a later time: none of it is the call's own. -/
theorem Kept.made {w wa wb w0 : World} {own own1 : List (Nat × Obj)} {ro ro1 : List Snap} (h : Mem w0 own ro) (hs : (wb, notOwn own1) ∈ ro) (hm : Mem wa own1 ro1) (hw : w.heap.size ≤ wa.heap.size) : Kept (fun b => wa.heap.size ≤ b) (newD w own) wb w0 :=
  fun k hk hlt => ⟨⟨Nat.le_trans hw hk, fun p hp he => by
    have h1 := h.apart p hp _ hs (fun q hq e => by have := hm.lt hq; omega)
    simp only at h1; omega⟩, h.ro_at _ hs k (fun q hq e => by have := hm.lt hq; omega) hlt⟩
theorem Kept.new {w w1 ws : World} {own own1 : List (Nat × Obj)} {ro : List Snap} (h : Mem w1 own1 ro) (hs : (ws, notOwn own) ∈ ro) : Kept (newD w own) (fun _ => True) ws w1 :=
  fun k hk hlt => ⟨trivial, h.ro_at _ hs k hk.2 hlt⟩
theorem Kept.out {w w0 ws : World} {own ownh : List (Nat × Obj)} {ro : List Snap} (h : Mem w0 own ro) (hs : (ws, notOwn ownh) ∈ ro) : Kept (newD w ownh) (fun b => w.heap.size ≤ b) ws w0 :=
  fun k hk hlt => ⟨hk.1, h.ro_at _ hs k hk.2 hlt⟩
/-- A row's elements as data: its cells are the parts css, one for each element. -/
def RowT {α : Type} (T : Ty α) (D : Nat → Prop) (ws : World) (r : RowS) (xs : List α) : Prop :=
  ∃ css : List (List Value), css.length = xs.length ∧ rowOK T.size r xs.length css.flatten ∧ ∀ j (h1 : j < css.length) (h2 : j < xs.length), T.rd D ws css[j] xs[j]
section
variable {α : Type} {T : Ty α} {D D' : Nat → Prop} {w ws w' : World} {r r' : RowS} {xs : List α}
theorem RowT.nil : RowT T D ws none [] := ⟨[], rfl, rowOK_nil, fun j h1 => by simp at h1⟩
theorem RowT.keep (h : RowT T D ws r xs) (hk : Kept D D' ws w') : RowT T D' w' r xs := by
  obtain ⟨css, h1, h2, h3⟩ := h
  exact ⟨css, h1, h2, fun j a b => T.keep (h3 j a b) hk⟩
theorem snocT {css : List (List Value)} {cs : List Value} {x : α} (h1 : css.length = xs.length) (h3 : ∀ j (h1 : j < css.length) (h2 : j < xs.length), T.rd D ws css[j] xs[j]) (hr : rowOK T.size r' (xs.length + 1) (css.flatten ++ cs)) (hx : T.rd D ws cs x) : RowT T D ws r' (xs ++ [x]) := by
  refine ⟨css ++ [cs], by simp [h1], by simpa using hr, fun j a b => ?_⟩
  by_cases hj : j < css.length
  · rw [List.getElem_append_left hj, List.getElem_append_left (by omega)]; exact h3 j hj (by omega)
  · have hj2 : j = css.length := by simp at a; omega
    subst hj2
    rw [List.getElem_append_right (Nat.le_refl _), List.getElem_append_right (by omega)]
    simpa [h1] using hx
theorem snocN {n : Nat} {css : List (List Value)} {cs : List Value} {x : α} (hn : xs.length = n) (h1 : css.length = n) (h3 : ∀ j (h1 : j < css.length) (h2 : j < xs.length), T.rd D ws css[j] xs[j]) (hr : rowOK T.size r' (n + 1) (css.flatten ++ cs)) (hx : T.rd D ws cs x) : RowT T D ws r' (xs ++ [x]) := by
  subst hn; exact snocT h1 h3 hr hx
theorem flatten_get {m : Nat} : ∀ (css : List (List Value)) (hl : ∀ j (h : j < css.length), css[j].length = m) (j : Nat) (hj : j < css.length) (i : Nat), i < m → css.flatten[j * m + i]? = css[j][i]?
  | [], _, j, hj, _, _ => by simp at hj
  | x :: xs, hl, 0, _, i, hi => by
    have h0 : x.length = m := hl 0 (by simp)
    rw [List.flatten_cons, List.getElem?_append_left (by rw [Nat.zero_mul, Nat.zero_add, h0]; exact hi)]; simp
  | x :: xs, hl, j + 1, hj, i, hi => by
    have h0 : x.length = m := hl 0 (by simp)
    rw [List.flatten_cons, List.getElem?_append_right (by rw [h0, Nat.add_mul]; omega), h0, show (j + 1) * m + i - m = j * m + i by rw [Nat.add_mul]; omega]
    exact flatten_get xs (fun k h => hl (k + 1) (by simpa using h)) j (by simpa using hj) i hi
theorem RowT.rd {own : List (Nat × Obj)} {ro : List Snap} {e : TypeId} {v : Nat} (h : RowT T D w r xs) (hm : Mem w own ro) (hin : ∀ p ∈ rowO e r, p ∈ own) (hD : ∀ b, D b → D' b) (hb : ∀ p ∈ rowO e r, D' p.1) (hv : v = xs.length) : sliceRd T D' w (rowV r v) xs := by
  subst hv
  obtain ⟨css, h1, ⟨h2, h4⟩, h3⟩ := h
  cases r with
  | none =>
    simp only at h4
    exact ⟨none, 0, by simp [rowV, rowA, rowC], by omega, by omega, fun h => by omega⟩
  | some x =>
    obtain ⟨b, cs, c⟩ := x
    obtain ⟨h5, h6, h7, h8⟩ := h4
    simp only at h5 h6 h7 h8
    have hmem : (b, Obj.cells cs.toArray e (0, 0)) ∈ own := hin _ (by simp [rowO])
    have hbl := hm.own_at _ hmem
    refine ⟨_, c, rfl, h5, by unfold maxLen at h6; omega, fun h0 => ⟨b, 0, rfl, hb (b, Obj.cells cs.toArray e (0, 0)) (by simp [rowO]), heap_lt hbl, fun j hj => ⟨css[j], fun i hi => ?_, T.keep (h3 j (by omega) hj) (fun k hk _ => ⟨hD k hk, rfl⟩)⟩⟩⟩
    have hlen : ∀ k (hk : k < css.length), css[k].length = T.size := fun k hk => T.len (h3 k hk (by omega))
    have hi' : i < T.size := by rw [hlen] at hi; exact hi
    have h9 := flatten_get css hlen j (by omega) i hi'
    have h10 : j * T.size + i < xs.length * T.size := by
      have : (j + 1) * T.size ≤ xs.length * T.size := Nat.mul_le_mul_right _ (by omega)
      rw [Nat.add_mul] at this
      omega
    rw [Nat.zero_add, cell_of_row w b _ cs.toArray e (0, 0) hbl, List.getElem?_toArray]
    rw [← h8, List.getElem?_take_of_lt h10] at h9
    rw [h9]
    exact List.getElem?_eq_getElem hi
theorem RowT.len {v : Nat} (h : RowT T D w r xs) : xs.length ≤ maxLen := by
  obtain ⟨css, h1, ⟨h2, h4⟩, h3⟩ := h
  cases r with
  | none => simp only at h4; omega
  | some x => obtain ⟨b, cs, c⟩ := x; obtain ⟨h5, h6, _⟩ := h4; exact Nat.le_trans h5 h6
end
theorem wrap_rng (n : Int) : -9223372036854775808 ≤ IntKind.i64.wrap n ∧ IntKind.i64.wrap n ≤ 9223372036854775807 := by rw [IntKind.wrap_i64]; omega
/-- A row of the call's own that the call may hand over: its blocks are new. -/
theorem Mem.newer {w w0 : World} {own : List (Nat × Obj)} {ro : List Snap} (h : Mem w own ro) (hs : (w0, fun _ => True) ∈ ro) {p : Nat × Obj} (hp : p ∈ own) : w0.heap.size ≤ p.1 := h.apart p hp _ hs trivial
theorem Mem.notIn {w : World} {own own' l1 : List (Nat × Obj)} {ro : List Snap} (h : Mem w own ro) (hp : (l1 ++ own').Sublist own) {p : Nat × Obj} (hm : p ∈ l1) : notOwn own' p.1 := fun q hq he => by
  have hnd := (hp.map (·.1)).nodup h.own_nd
  rw [List.map_append, List.nodup_append] at hnd
  exact hnd.2.2 p.1 (List.mem_map_of_mem hm) q.1 (List.mem_map_of_mem hq) he.symm
theorem sub_mid {β : Type} (a : List β) {mid b : List β} : (a ++ b).Sublist (a ++ (mid ++ b)) := (List.Sublist.refl a).append (List.sublist_append_right mid b)
theorem Mem.notMid {w : World} {mid b : List (Nat × Obj)} {ro : List Snap} (a : List (Nat × Obj)) (h : Mem w (a ++ (mid ++ b)) ro) {p : Nat × Obj} (hp : p ∈ mid) : notOwn (a ++ b) p.1 := fun q hq he => by
  have hnd := h.own_nd
  rw [List.map_append, List.map_append, List.nodup_append, List.nodup_append] at hnd
  obtain ⟨_, ⟨_, _, h3⟩, h4⟩ := hnd
  have hpm : p.1 ∈ mid.map (·.1) := List.mem_map_of_mem hp
  rcases List.mem_append.1 hq with hq | hq
  · exact h4 q.1 (List.mem_map_of_mem hq) p.1 (List.mem_append_left _ hpm) he
  · exact h3 p.1 hpm q.1 (List.mem_map_of_mem hq) he.symm
theorem RowT.plain {α : Type} {T : Ty α} {w : World} {mid b : List (Nat × Obj)} {ro : List Snap} {e : TypeId} {r : RowS} {xs : List α} {w0 wx : World} {n : Nat} (a : List (Nat × Obj)) (h : RowT T (fun _ => False) wx r xs) (hmid : mid = rowO e r) (hm : Mem w (a ++ (mid ++ b)) ro) (hb : (w0, fun _ => True) ∈ ro) (hn : n = xs.length) : sliceRd T (newD w0 (a ++ b)) w (rowV r n) xs := by
  subst hmid
  have h' : RowT T (fun _ => False) w r xs := h.keep (fun k hk _ => hk.elim)
  exact h'.rd hm (fun p hp => List.mem_append_right _ (List.mem_append_left _ hp)) (fun _ hx => hx.elim) (fun p hp => ⟨hm.newer hb (List.mem_append_right _ (List.mem_append_left _ hp)), hm.notMid a hp⟩) hn
theorem Mem.snap0 {w s : World} {own : List (Nat × Obj)} {ro : List Snap} (h : Mem w own ro) (hs : (s, fun _ => True) ∈ ro) {D : Nat → Prop} : Mem w own ((s, D) :: ro) where
  own_at := h.own_at
  own_nd := h.own_nd
  ro_st := fun x hx => by
    rcases List.mem_cons.1 hx with rfl | hx
    · exact h.ro_st (s, fun _ => True) hs
    · exact h.ro_st x hx
  ro_at := fun x hx k hk hlt => by
    rcases List.mem_cons.1 hx with rfl | hx
    · exact h.ro_at (s, fun _ => True) hs k trivial hlt
    · exact h.ro_at x hx k hk hlt
  apart := fun p hp x hx hd => by
    rcases List.mem_cons.1 hx with rfl | hx
    · exact h.apart p hp (s, fun _ => True) hs trivial
    · exact h.apart p hp x hx hd
theorem w_state {P : Program} {c : Code} {Q : Exit → Act → World → Prop} {n : Nat} (l : List (Nat × Value)) (own : List (Nat × Obj)) (ro : List Snap) (h : W P c Q n l own ro) : W P c Q n l own ro := h
theorem tdiv3 {c : Int} (h : -9223372036854775808 ≤ c ∧ c ≤ 9223372036854775807) : -3074457345618258603 ≤ c.tdiv 3 ∧ c.tdiv 3 ≤ 3074457345618258602 := by
  rcases Int.le_total 0 c with h0 | h0
  · rw [Int.tdiv_eq_ediv_of_nonneg h0]; omega
  · have : c.tdiv 3 = -((-c).tdiv 3) := by rw [Int.neg_tdiv, Int.neg_neg]
    rw [this, Int.tdiv_eq_ediv_of_nonneg (by omega)]; omega
theorem mul9 {j m a b : Int} (h1 : 0 ≤ j ∧ j ≤ a) (h2 : 0 ≤ m ∧ m ≤ b) : 0 ≤ j * m ∧ j * m ≤ a * b :=
  ⟨Int.mul_nonneg h1.1 h2.1, Int.mul_le_mul h1.2 h2.2 h2.1 (by omega)⟩
theorem ro_next {a b : Snap} {ro : List Snap} : ∀ s ∈ a :: ro, s ∈ a :: b :: ro := fun s hs => by
  rcases List.mem_cons.1 hs with rfl | hs
  · exact .head _
  · exact .tail _ (.tail _ hs)
end Go.PK

/- Of the proofs of YtbamklefagghcaaGreatDoor; see NOTES.md. -/
/-! The records that numbers determine: as plain functions. -/
namespace Go.PK
open Go Go.RowKit
set_option linter.unusedVariables false
def tagL : List ByteArray := [⟨#[48, 48, 49]⟩, ⟨#[50, 52, 53]⟩, ⟨#[49, 48, 48]⟩, ⟨#[48, 50, 48]⟩, ⟨#[54, 53, 48]⟩, ⟨#[55, 48, 48]⟩, ⟨#[50, 54, 48]⟩, ⟨#[53, 48, 48]⟩, ⟨#[57, 48, 48]⟩, ⟨#[57, 52, 57]⟩, ⟨#[48, 48, 56]⟩, ⟨#[50, 52, 54]⟩, ⟨#[54, 48, 48]⟩, ⟨#[49, 49, 48]⟩, ⟨#[52, 57, 48]⟩, ⟨#[48, 48, 51]⟩, ⟨#[57, 122, 57]⟩, ⟨#[50, 52]⟩, ⟨#[57, 57, 57]⟩, ⟨#[48]⟩]
def textL : List ByteArray := [⟨#[69, 109, 109, 97]⟩, ⟨#[84, 104, 101, 32, 115, 101, 97]⟩, ⟨#[195, 156, 98, 101, 114, 32, 100, 101, 110, 32, 70, 108, 117, 195, 159]⟩, ⟨#[87, 97, 114, 32, 97, 110, 100, 32, 112, 101, 97, 99, 101]⟩, ⟨#[119, 97, 114, 32, 38, 32, 80, 69, 65, 67, 69]⟩, ⟨#[65, 117, 115, 116, 101, 110, 44, 32, 74, 97, 110, 101]⟩, ⟨#[84, 111, 108, 115, 116, 111, 121]⟩, ⟨#[49, 57, 56, 52]⟩, ⟨#[57, 55, 56, 48, 51, 48, 54, 52, 48, 54, 49, 53, 55]⟩, ⟨#[48, 51, 48, 54, 52, 48, 54, 49, 53, 50]⟩, ⟨#[76, 111, 110, 100, 111, 110]⟩, ⟨#[83, 101, 97, 32, 115, 116, 111, 114, 105, 101, 115]⟩, ⟨#[65]⟩, ⟨#[]⟩, ⟨#[69, 109, 109, 97, 32, 97, 110, 100, 32, 116, 104, 101, 32, 115, 101, 97]⟩, ⟨#[49, 57, 57, 57]⟩, ⟨#[99, 49, 57, 57, 57, 46]⟩, ⟨#[82, 105, 118, 101, 114, 115]⟩, ⟨#[79, 99, 101, 97, 110, 115, 32, 45, 45, 32, 72, 105, 115, 116, 111, 114, 121]⟩, ⟨#[112, 101, 97, 99, 101]⟩]
def indL : List ByteArray := [⟨#[49, 48]⟩, ⟨#[32, 32]⟩, ⟨#[49, 32]⟩, ⟨#[48, 48]⟩, ⟨#[48, 32]⟩, ⟨#[32, 48]⟩, ⟨#[51, 32]⟩, ⟨#[49, 50]⟩]
def pickS (l : List ByteArray) (n : Int) : ByteArray := l.getD (n % l.length).toNat ⟨#[]⟩
def tagOf (n : Int) : ByteArray := pickS tagL n
def textOf (n : Int) : ByteArray := pickS textL n
theorem pick_ok {l : List ByteArray} (h : l.all (fun s => decide (s.size ≤ 1000)) = true) (n : Int) : (pickS l n).size ≤ 1000 := by
  unfold pickS
  rw [List.getD_eq_getElem?_getD]
  cases hx : l[(n % l.length).toNat]? with
  | none => show (0 : Nat) ≤ 1000; omega
  | some s =>
    have := List.all_eq_true.1 h s (List.mem_of_getElem? hx)
    simpa using this
theorem tagOf_ok (n : Int) : (tagOf n).size ≤ 1000 := pick_ok (by decide +kernel) n
theorem textOf_ok (n : Int) : (textOf n).size ≤ 1000 := pick_ok (by decide +kernel) n
theorem indOf_ok (n : Int) : (pickS indL n).size ≤ 1000 := pick_ok (by decide +kernel) n
theorem pick_at {l : List ByteArray} {n : Int} {i : Nat} (h : n % (l.length : Nat) = (i : Nat)) (hi : i < l.length) : (l.map Value.string)[i]? = some (.string (pickS l n)) := by
  unfold pickS
  rw [h, List.getElem?_map, List.getD_eq_getElem?_getD, Int.toNat_natCast, List.getElem?_eq_getElem hi]
  rfl
/-- Four numbers. -/
structure I4 where
  a : Int
  b : Int
  c : Int
  d : Int
def in64 (n : Int) : Prop := -9223372036854775808 ≤ n ∧ n ≤ 9223372036854775807
def I4.ok (x : I4) : Prop := in64 x.a ∧ in64 x.b ∧ in64 x.c ∧ in64 x.d
def I4.cells (x : I4) : List Value := [.int .i64 x.a, .int .i64 x.b, .int .i64 x.c, .int .i64 x.d]
def tyI4 : Ty I4 where
  size := 4
  rd := fun _ _ cs x => cs = [.int .i64 x.a, .int .i64 x.b, .int .i64 x.c, .int .i64 x.d] ∧ x.ok
  len := fun h => by rw [h.1]; rfl
  keep := fun h _ => h
def codesL : ByteArray := ⟨#[97, 98, 99, 48, 97, 118, 120, 113]⟩
def madeSub (x : I4) (j : Nat) : Sb := ⟨byteAt codesL ((x.c.tdiv 3 + (j : Int) * (1 + x.b % 3)) % 8).toNat, textOf (IntKind.i64.wrap (x.d + 3 * (j : Int)))⟩
def madeF (x : I4) : Fl :=
  if 1 < (tagOf x.a).size ∧ (tagOf x.a).extract 0 2 = ⟨#[48, 48]⟩ then ⟨tagOf x.a, ⟨#[]⟩, textOf x.d, []⟩
  else ⟨tagOf x.a, pickS indL x.b, ⟨#[]⟩, (List.range (1 + (x.c % 3).toNat)).map (madeSub x)⟩
def made (l : List I4) : List Fl := (l.take 20).map madeF
theorem made_len (l : List I4) : (made l).length ≤ 20 := by simp [made]; omega
theorem made_small (l : List I4) : ∀ f ∈ made l, f.tag.size ≤ 1000 ∧ f.subs.length ≤ 1000 := by
  intro f hf
  obtain ⟨x, _, rfl⟩ := List.mem_map.1 hf
  have h1 := tagOf_ok x.a
  unfold madeF; split
  · exact ⟨h1, Nat.zero_le _⟩
  · refine ⟨h1, ?_⟩
    simp only [List.length_map, List.length_range]
    omega
theorem madeF_ok (x : I4) : (madeF x).ok := by
  have h1 := tagOf_ok x.a
  have h2 := textOf_ok x.d
  have h3 := indOf_ok x.b
  unfold madeF; split <;> refine ⟨?_, ?_, ?_⟩ <;> (unfold okS; simp only; first | omega | decide)
end Go.PK

/- Of the proofs of YtbamklefagghcaaGreatDoor; see NOTES.md. -/
/-! Appending a slice that was read; strings of bytes; records whose rows are all the call's own. -/
namespace Go.PK
open Go Go.RowKit
set_option linter.unusedVariables false
theorem Mem.to {w : World} {own own' : List (Nat × Obj)} {ro : List Snap} (h : Mem w own ro) (e : own = own') : Mem w own' ro := e ▸ h
theorem run_append_empty {P : Program} {w : World} (base : Nat) (t ty e : TypeId) (i : TypeInfo) (size c2 : Nat) (ht : P.underlying t = some (.slice e)) (hi : P.info? e = some i)
    (v : Value) (n : Nat) (xs : List Value) (hown : w.ownsRow base e size v n xs) :
    (Builtin.append_ #[t, t] ty #[v, .slice none 0 c2]).run P w = .ok v w := by
  rcases hown.2 with ⟨rfl, rfl⟩ | ⟨g, cap, cur, rfl, _, _, hnc, _⟩
  · simp [Builtin.append_, run_underlying ht, sizeOf, typeInfo, hi, Builtin.lenOf, Builtin.firstCells]
  · simp [Builtin.append_, run_underlying ht, sizeOf, typeInfo, hi, Builtin.lenOf, Builtin.firstCells, hnc, storeCells]
section
variable {P : Program} {n : Nat} {l : List (Nat × Value)} {own : List (Nat × Obj)} {ro : List Snap} {lops : List Oper} {Q : Exit → Act → World → Prop} {K : Act → World → Prop}
  {rest : List (Option Bool × Nat)} {k : Option Bool} {i d b off : Nat} {op : Op} {ty : TypeId} {pos : String} {af : Array Edge} {x y : Operand} {t t' : TypeId}
/-- 'append(s, u...)' onto a row of the call's own, whatever u is: nil, empty or not. -/
theorem x_append_any {e : TypeId} {z : Value} {size bytes m len c2 : Nat} {ao : Option Addr} {xs news : List Value} (l1 : List (Nat × Obj)) {l2 : List (Nat × Obj)} (r : RowS) (ho : lops[i]? = some ⟨some d, .call ⟨.builtin .append, #[x, y], #[t, t]⟩, ty, pos, af, none⟩) (hd : decide (d < n) = true)
    (hx : ev l x = some (rowV r len)) (hy : ev l y = some (.slice ao m c2)) (hown : own = l1 ++ rowO e r ++ l2) (hr : rowOK size r len xs)
    (ht : P.underlying t = some (.slice e)) (hi : (P.info? e).map (fun j => (j.zero, j.size, j.bytes)) = some (some z, size, bytes)) (hz : (decide (z.cells.size = size) && decide (0 < size)) = true)
    (hl : news.length = m * size) (hno : ao = none → m = 0) (hat : ∀ w, Mem w own ro → ∀ a, ao = some a → ∀ j u, news[j]? = some u → w.cell? (a.add j) = some u) (h1 : news.all (fun u => u.oneCell') = true)
    (hb1 : len + m ≤ maxLen) (hb2 : (len + m) * bytes ≤ 140737488355328)
    (h : ∀ r', rowOK size r' (len + m) (xs ++ news) → WX P lops.toArray Q K rest n ((d, rowV r' (len + m)) :: l) (l1 ++ rowO e r' ++ l2) ro) : WX P lops.toArray Q K ((none, i) :: rest) n l own ro := by
  intro a w ha hw
  have hd' : d < n := of_decide_eq_true hd
  have hw1 := go_none (lops := lops) (n := n) (l := l) (o := ⟨some d, .call ⟨.builtin .append, #[x, y], #[t, t]⟩, ty, pos, af, none⟩) rfl a ha
  simp only [wpX, List.getElem?_toArray, ho]
  intro w' hl'
  rw [if_pos hw1]
  have hM0 := hw.later hl'
  have hat' := hat w' hM0
  subst hown
  have hM := hM0
  obtain ⟨inf, hi1, hi2⟩ := Option.map_eq_some_iff.1 hi
  simp only [Prod.mk.injEq] at hi2
  obtain ⟨hiz, his, hib⟩ := hi2
  simp only [Bool.and_eq_true, decide_eq_true_eq] at hz
  unfold Oper.wp execOp
  cases ao with
  | none =>
    have hm0 := hno rfl
    subst hm0
    have hnews : news = [] := List.eq_nil_of_length_eq_zero (by simpa using hl)
    subst hnews
    have hrun := run_append_empty (P := P) (w := w') 0 t ty e inf size c2 ht hi1 (rowV r len) len xs (row_owns (own := []) hM hr)
    simp only [resolve, invoke, builtin, Sem.run_bind, Sem.run_pure, Result.andThen_ok, List.map_toArray, List.map_cons, List.map_nil, ha.eval hx, ha.eval hy, hrun]
    exact h r (by simpa using hr) _ _ (ha.put _ hd') hM
  | some a0 =>
    obtain ⟨v', w2, hrun, h2, h3, _, h5⟩ := run_append_own_at (P := P) w' 0 t ty e inf z size bytes ht hi1 hiz his hib hz.1 hz.2 (rowV r len) len xs (row_owns (own := []) hM hr) a0 m c2 news hl
      (hat' a0 rfl) (by simpa using h1) hb1 hb2 (Nat.zero_le _)
    obtain ⟨r', rfl, hok, hM2⟩ := hM.append h2 h3 h5
    simp only [resolve, invoke, builtin, Sem.run_bind, Sem.run_pure, Result.andThen_ok, List.map_toArray, List.map_cons, List.map_nil, ha.eval hx, ha.eval hy, hrun]
    exact h r' hok _ _ (ha.put _ hd') hM2
/-- '[]T{}'. -/
theorem x_buildSlice0 {e : TypeId} {m : Nat} (ho : lops[i]? = some ⟨some d, .buildSlice t 0 #[], ty, pos, af, none⟩) (hk : (k == some true) = false) (hd : decide (d < n) = true)
    (ht : P.underlying t = some (.slice e)) (hs : (P.info? e).map (·.size) = some m)
    (h : ∀ b, WX P lops.toArray Q K rest n ((d, .slice (some ⟨b, 0, none⟩) 0 0) :: l) ((b, .cells #[] e) :: own) ro) : WX P lops.toArray Q K ((k, i) :: rest) n l own ro :=
  x_new (f := fun b => .slice (some ⟨b, 0, none⟩) 0 0) ho (go_none rfl) rfl hk hd (fun A w ha hw => by
    simp [execOp, Instr.buildSlice, Sem.run_bind, run_underlying ht, Result.andThen_ok, run_sizeOf hs, Instr.fill, newRow, show ∀ g : Nat → Value, Array.map g (Array.range 0) = #[] from fun g => Array.eq_empty_of_size_eq_zero (by simp)]) h
/-- 'string(b)'. -/
theorem v_toStr {e : TypeId} {m c : Nat} (bs : List UInt8) (hs : P.underlying t = some (.slice e)) (he : P.underlying e = some (.int .u8)) (hd : P.underlying t' = some .string) (hx : ev l x = some (.slice (some ⟨b, off, none⟩) m c)) (hm : m = bs.length)
    (hc : ∀ j (hj : j < bs.length), At own ro b (off + j) (.int .u8 bs[j].toNat)) : OpV P n l own ro (.convert t t' x) ty (.string ⟨bs.toArray⟩) := by
  intro A w o ha hw ho _
  subst hm
  have := run_convert_bytes_back (P := P) w t t' e ⟨b, off, none⟩ c bs hs he hd (fun j hj => by rw [mk_add]; exact hc j hj w hw)
  simp [execOp, ho, ha.eval hx, this]
end
/-- The cells of a slice that reads as data. -/
theorem sliceRd.cells {α : Type} {T : Ty α} {D : Nat → Prop} {w : World} {A : Option Addr} {m c : Nat} {xs : List α} (h : sliceRd T D w (.slice A m c) xs) :
    ∃ css : List (List Value), css.length = xs.length ∧ m = xs.length ∧ css.flatten.length = m * T.size ∧ (∀ j (h1 : j < css.length) (h2 : j < xs.length), T.rd D w css[j] xs[j]) ∧ (A = none → m = 0) ∧
      (∀ a, A = some a → ∀ j u, css.flatten[j]? = some u → w.cell? (a.add j) = some u) ∧ (0 < xs.length → ∃ b off, A = some ⟨b, off, none⟩ ∧ D b ∧ b < w.heap.size) := by
  obtain ⟨A', c', e, h1, h2, h3⟩ := h
  injection e with e1 e2 e3
  subst e1 e2 e3
  cases xs with
  | nil => exact ⟨[], rfl, rfl, by simp, fun j h => by simp at h, fun _ => rfl, fun a _ j u hu => by simp at hu, fun h => by simp at h⟩
  | cons y ys =>
    obtain ⟨b, off, rfl, hD, hb, hc⟩ := h3 (by simp)
    have hc' : ∀ j : Fin (y :: ys).length, ∃ cs, (∀ i (hi : i < cs.length), w.cell? ⟨b, off + j.1 * T.size + i, none⟩ = some cs[i]) ∧ T.rd D w cs (y :: ys)[j.1] := fun j => hc j.1 j.2
    let f : Fin (y :: ys).length → List Value := fun j => (hc' j).choose
    have hf : ∀ j, (∀ i (hi : i < (f j).length), w.cell? ⟨b, off + j.1 * T.size + i, none⟩ = some (f j)[i]) ∧ T.rd D w (f j) (y :: ys)[j.1] := fun j => (hc' j).choose_spec
    have hlen : ∀ j (h : j < (List.ofFn f).length), (List.ofFn f)[j].length = T.size := fun j h => by
      rw [List.getElem_ofFn]; exact T.len (hf _).2
    have htot : (List.ofFn f).flatten.length = (y :: ys).length * T.size := by
      rw [List.length_flatten]
      have : (List.ofFn f).map List.length = List.replicate (y :: ys).length T.size := by
        apply List.ext_getElem
        · simp
        · intro j h1 h2
          rw [List.getElem_map, List.getElem_replicate]
          exact hlen j (by simpa using h1)
      rw [this]; simp
    refine ⟨List.ofFn f, by simp, rfl, htot, fun j h1 h2 => ?_, (fun h => by cases h), fun a ha j u hu => ?_, fun _ => ⟨b, off, rfl, hD, hb⟩⟩
    · rw [List.getElem_ofFn]; exact (hf ⟨j, h2⟩).2
    · obtain rfl := Option.some.inj ha
      have hj : j < (y :: ys).length * T.size := by
        rw [← htot]; exact (List.getElem?_eq_some_iff.1 hu).1
      have hs0 : 0 < T.size := by
        rcases Nat.eq_zero_or_pos T.size with h0 | h0
        · rw [h0] at hj; omega
        · exact h0
      have hq : j / T.size < (y :: ys).length := Nat.div_lt_of_lt_mul (by rw [Nat.mul_comm]; exact hj)
      have hr : j % T.size < T.size := Nat.mod_lt _ hs0
      have hjd : j / T.size * T.size + j % T.size = j := by rw [Nat.mul_comm]; exact Nat.div_add_mod j T.size
      have hg := flatten_get (List.ofFn f) hlen (j / T.size) (by simpa using hq) (j % T.size) hr
      rw [hjd, List.getElem_ofFn] at hg
      have hfl : (f ⟨j / T.size, hq⟩).length = T.size := T.len (hf _).2
      have hx := List.getElem?_eq_getElem (l := f ⟨j / T.size, hq⟩) (i := j % T.size) (by rw [hfl]; exact hr)
      rw [hx] at hg
      rw [hg] at hu
      obtain rfl := Option.some.inj hu
      have := (hf ⟨j / T.size, hq⟩).1 (j % T.size) (by rw [hfl]; exact hr)
      rw [mk_add, ← this, Nat.add_assoc, hjd]
def sbC (s : Sb) : List Value := [.int .u8 s.code.toNat, .string s.text]
theorem tySb_cells {D : Nat → Prop} {w : World} : ∀ {css : List (List Value)} {xs : List Sb}, css.length = xs.length → (∀ j (h1 : j < css.length) (h2 : j < xs.length), tySb.rd D w css[j] xs[j]) → css.flatten = xs.flatMap sbC ∧ ∀ s ∈ xs, okS s.text
  | [], [], _, _ => ⟨rfl, by simp⟩
  | c :: css, x :: xs, hl, h => by
    have h0 := h 0 (by simp) (by simp)
    have ih := tySb_cells (css := css) (xs := xs) (by simpa using hl) (fun j h1 h2 => h (j + 1) (by simpa using h1) (by simpa using h2))
    obtain ⟨he, hok⟩ := h0
    simp only [List.getElem_cons_zero] at he hok
    refine ⟨by rw [List.flatten_cons, List.flatMap_cons, ih.1, he]; rfl, fun s hs => ?_⟩
    rcases List.mem_cons.1 hs with rfl | hs
    · exact hok
    · exact ih.2 s hs
theorem sbC_one (xs : List Sb) : (xs.flatMap sbC).all (fun u => u.oneCell') = true := by
  rw [List.all_eq_true]
  intro u hu
  obtain ⟨s, _, hs⟩ := List.mem_flatMap.1 hu
  simp only [sbC, List.mem_cons, List.not_mem_nil, or_false] at hs
  rcases hs with rfl | rfl <;> rfl
/-- A list of fields whose rows are all the call's own: R the row of the fields, Ss the rows of their subfields. -/
def flS (f : Fl) (S : RowS) : List Value := [.string f.tag, .string f.ind, .string f.data, rowV S f.subs.length]
def Fl.good (f : Fl) : Prop := f.ok ∧ ∀ s ∈ f.subs, okS s.text
structure DeepOK (R : RowS) (Ss : List RowS) (fs : List Fl) : Prop where
  len : Ss.length = fs.length
  row : rowOK 4 R fs.length (List.zipWith flS fs Ss).flatten
  subs : ∀ j (h1 : j < Ss.length) (h2 : j < fs.length), rowOK 2 Ss[j] fs[j].subs.length (fs[j].subs.flatMap sbC)
  ok : ∀ f ∈ fs, f.good
/-- The rows of the subfields, the last first. -/
def subsO (Ss : List RowS) : List (Nat × Obj) := Ss.reverse.flatMap (rowO 48)
theorem subsO_nil : subsO [] = [] := rfl
theorem subsO_snoc (Ss : List RowS) (S : RowS) : subsO (Ss ++ [S]) = rowO 48 S ++ subsO Ss := by simp [subsO]
theorem subsO_mid (a b : List RowS) (S : RowS) : subsO (a ++ S :: b) = subsO b ++ (rowO 48 S ++ subsO a) := by simp [subsO]
theorem DeepOK.nil : DeepOK none [] [] := ⟨rfl, rowOK_nil, fun j h => by simp at h, by simp⟩
theorem zw_len {fs : List Fl} {Ss : List RowS} (h : Ss.length = fs.length) : (List.zipWith flS fs Ss).length = fs.length := by rw [List.length_zipWith, h, Nat.min_self]
theorem DeepOK.snoc {R R' S : RowS} {Ss : List RowS} {fs : List Fl} {f : Fl} {n : Nat} (h : DeepOK R Ss fs) (hn : n = fs.length) (hr : rowOK 4 R' (n + 1) ((List.zipWith flS fs Ss).flatten ++ flS f S)) (hs : rowOK 2 S f.subs.length (f.subs.flatMap sbC)) (hok : f.good) : DeepOK R' (Ss ++ [S]) (fs ++ [f]) where
  len := by simp [h.len]
  row := by
    subst hn
    rw [List.zipWith_append h.len.symm]
    simpa using hr
  subs := fun j h1 h2 => by
    by_cases hj : j < Ss.length
    · have hj2 : j < fs.length := by rw [← h.len]; exact hj
      rw [List.getElem_append_left hj]
      simp only [List.getElem_append_left hj2]
      exact h.subs j hj hj2
    · have hj2 : j = fs.length := by have := h.len; simp at h1 h2; omega
      subst hj2
      rw [List.getElem_append_right (by omega)]
      simp only [List.getElem_append_right (Nat.le_refl _)]
      simpa [h.len] using hs
  ok := fun g hg => by
    rcases List.mem_append.1 hg with hg | hg
    · exact h.ok g hg
    · rw [List.mem_singleton.1 hg]; exact hok
end Go.PK

/- Of the proofs of YtbamklefagghcaaGreatDoor; see NOTES.md. -/
namespace Go.PK
open Go Go.RowKit
set_option linter.unusedVariables false
theorem flatten_set {m : Nat} : ∀ (css : List (List Value)) (hl : ∀ j (h : j < css.length), css[j].length = m) (n : Nat) (hn : n < css.length) (x : List Value),
    (css.set n x).flatten = css.flatten.take (n * m) ++ x ++ css.flatten.drop (n * m + m)
  | [], _, n, hn, _ => by simp at hn
  | c :: css, hl, 0, hn, x => by
    have h0 : c.length = m := hl 0 (by simp)
    rw [List.set_cons_zero, List.flatten_cons, List.flatten_cons, Nat.zero_mul, Nat.zero_add, List.take_zero, List.nil_append, ← h0, List.drop_left]
  | c :: css, hl, n + 1, hn, x => by
    have h0 : c.length = m := hl 0 (by simp)
    have e : (n + 1) * m = c.length + n * m := by rw [Nat.add_mul, h0]; omega
    rw [List.set_cons_succ, List.flatten_cons, List.flatten_cons, flatten_set css (fun k h => hl (k + 1) (by simpa using h)) n (by simpa using hn) x, e, Nat.add_assoc, List.take_length_add_append, List.drop_length_add_append]
    simp [List.append_assoc]
theorem flS_len (f : Fl) (S : RowS) : (flS f S).length = 4 := rfl
theorem zw_get {fs : List Fl} {Ss : List RowS} {j : Nat} (h1 : j < fs.length) (h2 : j < Ss.length) (h : j < (List.zipWith flS fs Ss).length) : (List.zipWith flS fs Ss)[j] = flS fs[j] Ss[j] := List.getElem_zipWith
theorem zw_m {fs : List Fl} {Ss : List RowS} (j : Nat) (h : j < (List.zipWith flS fs Ss).length) : (List.zipWith flS fs Ss)[j].length = 4 := by rw [List.getElem_zipWith]; rfl
theorem zw_flat {fs : List Fl} {Ss : List RowS} (h : Ss.length = fs.length) : (List.zipWith flS fs Ss).flatten.length = fs.length * 4 := by
  rw [List.length_flatten]
  have : (List.zipWith flS fs Ss).map List.length = List.replicate fs.length 4 := by
    apply List.ext_getElem
    · simp [h]
    · intro j h1 h2
      rw [List.getElem_map, List.getElem_replicate]
      exact zw_m j (by simpa using h1)
  rw [this]; simp
/-- The row of the fields, where there are some. -/
theorem DeepOK.there {R : RowS} {Ss : List RowS} {fs : List Fl} (h : DeepOK R Ss fs) (hl : 0 < fs.length) : ∃ b cs c, R = some (b, cs, c) ∧ fs.length ≤ c ∧ c ≤ maxLen ∧ cs.length = c * 4 ∧ cs.take (fs.length * 4) = (List.zipWith flS fs Ss).flatten := by
  obtain ⟨h1, h2⟩ := h.row
  cases R with
  | none => simp only at h2; omega
  | some x => obtain ⟨b, cs, c⟩ := x; obtain ⟨h3, h4, h5, h6⟩ := h2; exact ⟨b, cs, c, rfl, h3, h4, h5, h6⟩
theorem DeepOK.at {b c : Nat} {cs : List Value} {Ss : List RowS} {fs : List Fl} (h : DeepOK (some (b, cs, c)) Ss fs) {n : Nat} (h1 : n < fs.length) (h2 : n < Ss.length) {i : Nat} (hi : i < 4) : cs[n * 4 + i]? = (flS fs[n] Ss[n])[i]? := by
  obtain ⟨b', cs', c', e, h3, h4, h5, h6⟩ := h.there (by omega)
  injection e with e; injection e with e1 e2; injection e2 with e2 e3; subst e1 e2 e3
  have hz := zw_len h.len
  have := flatten_get (m := 4) (List.zipWith flS fs Ss) (fun j h => zw_m j h) n (by omega) i hi
  rw [zw_get h1 h2, ← h6, List.getElem?_take_of_lt (by omega)] at this
  exact this
theorem DeepOK.set {b c : Nat} {cs : List Value} {Ss : List RowS} {fs : List Fl} (h : DeepOK (some (b, cs, c)) Ss fs) {n : Nat} (h1 : n < fs.length) {g : Fl} {S : RowS} (hs : rowOK 2 S g.subs.length (g.subs.flatMap sbC)) (hg : g.good) :
    DeepOK (some (b, cs.take (n * 4) ++ flS g S ++ cs.drop (n * 4 + 4), c)) (Ss.set n S) (fs.set n g) := by
  obtain ⟨b', cs', c', e, h3, h4, h5, h6⟩ := h.there (by omega)
  injection e with e; injection e with e1 e2; injection e2 with e2 e3; subst e1 e2 e3
  have hz := zw_len h.len
  have hfl := zw_flat h.len
  have h2 : n < Ss.length := by rw [h.len]; exact h1
  have hzs : List.zipWith flS (fs.set n g) (Ss.set n S) = (List.zipWith flS fs Ss).set n (flS g S) := by
    apply List.ext_getElem
    · simp
    · intro j a1 a2
      rw [List.getElem_zipWith, List.getElem_set, List.getElem_set, List.getElem_set]
      split
      · rfl
      · rw [List.getElem_zipWith]
  refine ⟨by simp [h.len], ⟨?_, ?_⟩, fun j a1 a2 => ?_, fun f hf => ?_⟩
  · rw [hzs, flatten_set (m := 4) _ (fun j h => zw_m j h) n (by omega)]
    simp only [List.length_append, List.length_take, List.length_drop, hfl, flS_len, List.length_set]
    omega
  · have hcs : cs = (List.zipWith flS fs Ss).flatten ++ cs.drop (fs.length * 4) := by rw [← h6, List.take_append_drop]
    refine ⟨by simpa using h3, h4, ?_, ?_⟩
    · simp only [List.length_append, List.length_take, List.length_drop, flS_len]; omega
    · rw [List.length_set, hzs, flatten_set (m := 4) _ (fun j h => zw_m j h) n (by omega)]
      generalize (List.zipWith flS fs Ss).flatten = F at hcs hfl
      generalize cs.drop (fs.length * 4) = G at hcs
      have e1 : List.take (n * 4) (F ++ G) = F.take (n * 4) := List.take_append_of_le_length (by omega)
      have e2 : List.drop (n * 4 + 4) (F ++ G) = F.drop (n * 4 + 4) ++ G := List.drop_append_of_le_length (by omega)
      rw [hcs, e1, e2, ← List.append_assoc]
      exact List.take_left' (by simp only [List.length_append, List.length_take, List.length_drop, flS_len]; omega)
  · simp only [List.length_set] at a1 a2
    by_cases hj : n = j
    · subst hj
      simp only [List.getElem_set_self]; exact hs
    · simp only [List.getElem_set_ne hj]
      exact h.subs j a1 a2
  · rcases List.mem_or_eq_of_mem_set hf with hf | rfl
    · exact h.ok f hf
    · exact hg
theorem subs_rd {own : List (Nat × Obj)} {ro : List Snap} {w : World} {D : Nat → Prop} {S : RowS} {xs : List Sb} (hr : rowOK 2 S xs.length (xs.flatMap sbC)) (hok : ∀ s ∈ xs, okS s.text) (hm : Mem w own ro) (hin : ∀ p ∈ rowO 48 S, p ∈ own) (hD : ∀ p ∈ own, D p.1) : sliceRd tySb D w (rowV S xs.length) xs := by
  have h : RowT tySb (fun _ => False) w S xs := ⟨xs.map sbC, by simp, by rw [← List.flatMap_def]; exact hr, fun j a1 a2 => by
    rw [List.getElem_map]; exact ⟨rfl, hok _ (List.getElem_mem a2)⟩⟩
  exact h.rd hm hin (fun _ hx => hx.elim) (fun p hp => hD p (hin p hp)) rfl
theorem DeepOK.rd {own : List (Nat × Obj)} {ro : List Snap} {w : World} {D : Nat → Prop} {R : RowS} {Ss : List RowS} {fs : List Fl} (h : DeepOK R Ss fs) (hm : Mem w own ro) (hR : ∀ p ∈ rowO 46 R, p ∈ own) (hS : ∀ p ∈ subsO Ss, p ∈ own) (hD : ∀ p ∈ own, D p.1) : sliceRd tyFl D w (rowV R fs.length) fs := by
  have hz := zw_len h.len
  have hT : RowT tyFl D w R fs := ⟨List.zipWith flS fs Ss, hz, h.row, fun j a1 a2 => by
    have a3 : j < Ss.length := by rw [h.len]; exact a2
    rw [zw_get a2 a3]
    refine ⟨_, rfl, (h.ok _ (List.getElem_mem a2)).1, subs_rd (h.subs j a3 a2) (h.ok _ (List.getElem_mem a2)).2 hm (fun p hp => hS p ?_) hD⟩
    unfold subsO
    exact List.mem_flatMap.2 ⟨Ss[j], List.mem_reverse.2 (List.getElem_mem a3), hp⟩⟩
  exact hT.rd hm hR (fun _ h => h) (fun p hp => hD p (hR p hp)) rfl
theorem subsO_split {Ss : List RowS} {n : Nat} (h : n < Ss.length) : subsO Ss = subsO (Ss.drop (n + 1)) ++ (rowO 48 Ss[n] ++ subsO (Ss.take n)) := by
  rw [← subsO_mid, List.getElem_cons_drop, List.take_append_drop]
theorem subsO_set {Ss : List RowS} {n : Nat} (h : n < Ss.length) (S : RowS) : subsO (Ss.set n S) = subsO (Ss.drop (n + 1)) ++ (rowO 48 S ++ subsO (Ss.take n)) := by
  rw [← subsO_mid, List.set_eq_take_append_cons_drop, if_pos h]
end Go.PK

/- Of the proofs of YtbamklefagghcaaGreatDoor; see NOTES.md. -/
/-! The shell of a law that is true whatever its arguments: what comes in, read as data; what is left behind. -/
namespace Go.PK
open Go Go.ChangeShapes Go.WideShapes Go.ChangeAt Go.RowKit
set_option linter.unusedVariables false
section
variable {H : Type} {enc : TypeId × Value → H} {P : Program} {W W' : World}
theorem later_same (hl : PK.Later W W') {p : MemPlace} (hp : p.block < W.heap.size) : W.sameAt W' p := Below.same hl hp
theorem args_after {T : TypeId → Prop} (K : Kids P T) (hz : ∀ t e, T t → P.underlying t = some (.slice e) → 0 < P.cellsOf e) {sp : Nat → Bool} (hl : PK.Later W W') : ∀ {ts : List TypeId} {vs : List Value} {ds : List (DataW H)} {ps : List MemPlace}, (∀ t ∈ ts, T t) →
    DataW.TrodAll enc P W 0 (fun _ => true) true ts vs ds ps → (∀ p ∈ ps, p.block < W.heap.size) → (∀ p ∈ ps, sp p.block = true) → DataW.TrodAll enc P W' 0 sp true ts vs ds ps
  | [], [], [], _, _, h, _, _ => h
  | _ :: _, _ :: _, _ :: _, _, hT, ⟨p, q, h1, h2, e⟩, hlt, hs =>
    ⟨p, q, by
      obtain ⟨n, hn⟩ := h1.respare K hz (hT _ (List.mem_cons.2 (Or.inl rfl))) (fun x hx => hs x (by rw [e]; exact List.mem_append_left _ hx))
      exact ⟨n, DataW.trod_carry n _ _ _ hn (fun x hx => later_same hl (hlt x (by rw [e]; exact List.mem_append_left _ hx)))⟩,
      args_after K hz hl (fun t ht => hT t (List.mem_cons.2 (Or.inr ht))) h2 (fun x hx => hlt x (by rw [e]; exact List.mem_append_right _ hx)) (fun x hx => hs x (by rw [e]; exact List.mem_append_right _ hx)), e⟩
theorem post_of_later {f : Func} {s : ChangeSpec} {apart fresh handsOn again : Bool} {args : Array Value} {v : Value} {ds gs : List (DataW H)} {before pa pv : List MemPlace}
    (hW : DataW.Whole enc P f.params.toList s.vars apart W args.toList ds gs before)
    (hres : ∀ (b : Nat) (sp : Nat → Bool) (hd : Bool), DataW.TrodAll enc P W' b sp hd f.resultTypes.toList (v.resultList f.resultTypes.size) (s.fn H (ds ++ gs)).results [])
    (hargs : ∀ sp : Nat → Bool, (∀ p ∈ before, sp p.block = true) → DataW.TrodAll enc P W' 0 sp true f.params.toList args.toList (s.fn H (ds ++ gs)).args pa)
    (hvars : ∀ sp : Nat → Bool, (∀ p ∈ before, sp p.block = true) → DataW.TrodVars enc P W' sp s.vars (s.fn H (ds ++ gs)).vars pv)
    (hps : before = pa ++ pv) (hl : PK.Later W W')
    (hok : ∀ (j : Nat) (t : TypeId) (r : Value), f.resultTypes[j]? = some t → (v.resultList f.resultTypes.size)[j]? = some r → Value.okWide P W' .any 0 t r) :
    s.post enc P f apart fresh handsOn again W args v W' := by
  have hold : ∀ p ∈ before, (fun b => decide (b < W.heap.size)) p.block = true := fun p hp => by simpa using hW.lt p hp
  have hlt := fun p hp => hW.lt p hp
  refine ⟨ds, gs, before, [], pa, pv, hW, hres _ _ _, hargs _ hold, hvars _ hold, hl.frame _, fun _ => ?_⟩
  · obtain ⟨_, _, _, _, _, hz, hn⟩ := hW
    refine ⟨hok, _, _, ([] ++ pa) ++ pv, ⟨[] ++ pa, pv, trodAll_append (hargs _ (fun _ _ => rfl)) (hres _ _ _), hvars _ (fun _ _ => rfl), rfl, ?_, ?_⟩, ?_⟩
    · intro b off hp
      have hp' := hp
      rw [List.nil_append, ← hps] at hp'
      rw [Below.frozen hl (hlt _ hp')]
      exact hz b off hp'
    · intro ha
      have := hn ha
      rw [hps] at this
      simpa using this
    · intro p hp _
      rw [hps]
      simpa using hp
/-- A law that returned true and left what came in as it was. -/
theorem post_true {f : Func} {s : ChangeSpec} {apart fresh handsOn again : Bool} {args : Array Value} {ds : List (DataW H)} {before : List MemPlace} {tb : TypeId}
    (hK : laidOutB P = true) (hm : mapsRowed P = true) (hsl : ((List.range P.types.size).all fun t => match P.underlying t with | some (.slice e) => decide (0 < P.cellsOf e) | _ => true) = true)
    (hts : (f.params.toList.all fun t => decide (t < P.types.size)) = true) (hrt : f.resultTypes = #[tb]) (hb : P.underlying tb = some .bool) (hv : s.vars = [])
    (hW : DataW.Whole enc P f.params.toList s.vars apart W args.toList ds [] before) (hfn : s.fn H ds = { results := [.lit (.bool true)], args := ds }) (hl : PK.Later W W') :
    s.post enc P f apart fresh handsOn again W args (.bool true) W' := by
  have hW' := hW
  have hlt : ∀ p ∈ before, p.block < W.heap.size := fun p hp => hW.lt p hp
  obtain ⟨p, q, hA, hV, hpq, hfz, hnd⟩ := hW
  rw [hv] at hV
  obtain ⟨_, rfl⟩ := trodVars_none hV
  rw [List.append_nil] at hpq
  subst hpq
  refine post_of_later (pa := before) (pv := []) hW' (fun _ _ _ => ?_) (fun sp hsp => ?_) (fun _ _ => ?_) (by simp) hl (ok_one hrt rfl (okWide_bool_mk hb _))
  · rw [List.append_nil, hfn, hrt]; exact trodAll_cons_mk (shut_bool hb _) trodAll_mk0
  · rw [List.append_nil, hfn]
    exact args_after (kids_rows hK hm) (slices_full_of P hsl) hl (fun t ht => of_decide_eq_true (List.all_eq_true.1 hts t ht)) hA hlt hsp
  · rw [List.append_nil, hfn, hv]; exact rfl
/-- What lies behind a type reads as data. -/
structure Rdr {α : Type} (P : Program) (t : TypeId) (T : Ty α) : Prop where
  size : P.cellsOf t = T.size
  pos : 0 < T.size
  rd : ∀ {H : Type} {enc : TypeId × Value → H} {w : World} {base : Nat} {sp : Nat → Bool} {held : Bool} {fuel : Nat} {cs : List Value} {x : DataW H × List MemPlace}, DataW.trod enc P w base sp held fuel t cs = some x → ∃ y, T.rd (fun _ => True) w cs y
theorem wf_in64 {n : Int} (h : (Lit.int .i64 n).wf = true) : in64 n := by
  simp only [Lit.wf, Bool.and_eq_true, decide_eq_true_eq] at h
  have h1 : IntKind.i64.min = -9223372036854775808 := by decide
  have h2 : IntKind.i64.max = 9223372036854775807 := by decide
  unfold in64; omega
def tyI : Ty Int where
  size := 1
  rd := fun _ _ cs x => cs = [.int .i64 x] ∧ in64 x
  len := fun h => by rw [h.1]; rfl
  keep := fun h _ => h
theorem rdr_i {t : TypeId} (ht : P.underlying t = some (.int .i64)) (hc : P.cellsOf t = 1) : Rdr P t tyI :=
  ⟨hc, Nat.one_pos, fun h => by obtain ⟨n, rfl, _, hw⟩ := DataW.trod_int ht h; exact ⟨n, rfl, wf_in64 hw⟩⟩
theorem rdr_s {t : TypeId} (ht : P.underlying t = some .string) (hc : P.cellsOf t = 1) : Rdr P t tyStr :=
  ⟨hc, Nat.one_pos, fun h => by obtain ⟨s, rfl, _, hw⟩ := DataW.trod_string ht h; exact ⟨s, rfl, by unfold maxLen at hw; unfold okS; omega⟩⟩
theorem trod_arrG {t e : TypeId} {n fuel base : Nat} {sp : Nat → Bool} {held : Bool} {w : World} {cs : List Value} {x : DataW H × List MemPlace} (ht : P.underlying t = some (.array n e)) (h : DataW.trod enc P w base sp held fuel t cs = some x) :
    ∃ m xs, cs.length = P.cellsOf t ∧ ((List.range n).mapM fun i => DataW.trod enc P w base sp held m e ((cs.drop (i * P.cellsOf e)).take (P.cellsOf e))) = some xs := by
  cases fuel with
  | zero => simp [DataW.trod] at h
  | succ m =>
    unfold DataW.trod at h
    rw [ht] at h
    split at h <;> simp_all
    obtain ⟨hl, xs, hp, hd⟩ := h
    exact ⟨m, xs, hp⟩
/-- An array of n values of one cell. -/
theorem trod_arr1 {t e : TypeId} {n fuel base : Nat} {sp : Nat → Bool} {held : Bool} {w : World} {cs : List Value} {x : DataW H × List MemPlace} (ht : P.underlying t = some (.array n e)) (hn : P.cellsOf t = n) (he : P.cellsOf e = 1) (h : DataW.trod enc P w base sp held fuel t cs = some x) :
    cs.length = n ∧ ∀ i (hi : i < cs.length), ∃ m y, DataW.trod enc P w base sp held m e [cs[i]] = some y := by
  obtain ⟨m, xs, hl, hx⟩ := trod_arrG ht h
  rw [hn] at hl
  refine ⟨hl, fun i hi => ?_⟩
  have h3 := mapM_some_get hx i i (by rw [List.getElem?_range (by omega)])
  have hxl : xs.length = n := by simpa using mapM_some_length hx
  rw [he, Nat.mul_one, List.getElem?_eq_getElem (by omega), List.drop_eq_getElem_cons hi] at h3
  exact ⟨m, _, h3⟩
theorem rdr_i4 {t e : TypeId} (ht : P.underlying t = some (.array 4 e)) (hn : P.cellsOf t = 4) (he : P.cellsOf e = 1) (hi : P.underlying e = some (.int .i64)) : Rdr P t tyI4 :=
  ⟨hn, by show 0 < 4; omega, @fun H enc w base sp held fuel cs x h => by
    obtain ⟨hl, hc⟩ := trod_arr1 ht hn he h
    match hcs : cs, hl with
    | [a, b, c, d], _ =>
      obtain ⟨_, _, ha⟩ := hc 0 (by simp)
      obtain ⟨_, _, hb⟩ := hc 1 (by simp)
      obtain ⟨_, _, hc'⟩ := hc 2 (by simp)
      obtain ⟨_, _, hd⟩ := hc 3 (by simp)
      obtain ⟨a', e1, _, w1⟩ := DataW.trod_int hi ha
      obtain ⟨b', e2, _, w2⟩ := DataW.trod_int hi hb
      obtain ⟨c', e3, _, w3⟩ := DataW.trod_int hi hc'
      obtain ⟨d', e4, _, w4⟩ := DataW.trod_int hi hd
      simp only [List.getElem_cons_zero, List.getElem_cons_succ, List.cons.injEq, and_true] at e1 e2 e3 e4
      subst e1 e2 e3 e4
      exact ⟨⟨a', b', c', d'⟩, rfl, wf_in64 w1, wf_in64 w2, wf_in64 w3, wf_in64 w4⟩⟩
/-- A slice. -/
theorem trod_rd {α : Type} {T : Ty α} {t e : TypeId} {fuel base : Nat} {sp : Nat → Bool} {held : Bool} {w : World} {cs : List Value} {x : DataW H × List MemPlace} (ht : P.underlying t = some (.slice e)) (R : Rdr P e T) (h : DataW.trod enc P w base sp held fuel t cs = some x) :
    ∃ v xs, cs = [v] ∧ sliceRd T (fun _ => True) w v xs ∧ ∃ a l c, v = .slice a l c := by
  rcases Go.Deep.open_slice ht h with ⟨rfl, _⟩ | ⟨a, len, cap, m, n, D, Pl, rfl, hb, hl, hm, hmm, _, hx⟩
  · exact ⟨_, [], rfl, ⟨none, 0, rfl, Nat.le_refl _, Nat.zero_le _, fun h => by simp at h⟩, _, _, _, rfl⟩
  · have hlm : len ≤ m := by rw [hmm]; split <;> omega
    have hx' : ∀ i, i < len → ∃ p : List Value × α, w.cells? base (a.add (i * P.cellsOf e)) (P.cellsOf e) = some p.1 ∧ T.rd (fun _ => True) w p.1 p.2 := fun i hi => by
      obtain ⟨cs', h1, h2⟩ := hx i (by omega)
      obtain ⟨y, hy⟩ := R.rd h2
      exact ⟨⟨cs', y⟩, h1, hy⟩
    rcases Nat.eq_zero_or_pos len with h0 | h0
    · subst h0
      exact ⟨_, [], rfl, ⟨some a, cap, rfl, Nat.zero_le _, Nat.zero_le _, fun h => by simp at h⟩, _, _, _, rfl⟩
    · have hspot : a.spot = none := by
        obtain ⟨p, h1, h2⟩ := hx' 0 h0
        have hpl : 0 < P.cellsOf e := by rw [R.size]; exact R.pos
        unfold World.cells? at h1
        split at h1
        · have := mapM_some_get h1 0 0 (by rw [List.getElem?_range hpl])
          have hlen : p.1.length = P.cellsOf e := by simpa using mapM_some_length h1
          rw [List.getElem?_eq_getElem (by omega)] at this
          have e0 : (a.add (0 * P.cellsOf e)).add 0 = a := by simp [Addr.add]
          rw [e0] at this
          unfold World.cell? at this
          split at this
          · split at this
            · cases this
            · rename_i hns; simpa using hns
          · cases this
        · cases h1
      obtain ⟨b, off, sp'⟩ := a
      simp only at hspot
      subst hspot
      let F : (i : Nat) → (i < len) → List Value × α := fun i hi => (hx' i hi).choose
      have hF : ∀ i (hi : i < len), w.cells? base ((⟨b, off, none⟩ : Addr).add (i * P.cellsOf e)) (P.cellsOf e) = some (F i hi).1 ∧ T.rd (fun _ => True) w (F i hi).1 (F i hi).2 := fun i hi => (hx' i hi).choose_spec
      refine ⟨_, List.ofFn (fun i : Fin len => (F i.1 i.2).2), rfl, ⟨_, cap, by rw [List.length_ofFn], by rw [List.length_ofFn]; exact hl, by rw [List.length_ofFn]; unfold maxLen at hm; omega, fun _ => ⟨b, off, rfl, trivial, ?_, fun j hj => ?_⟩⟩, _, _, _, rfl⟩
      · obtain ⟨h1, h2⟩ := hF 0 h0
        have hpl : 0 < P.cellsOf e := by rw [R.size]; exact R.pos
        unfold World.cells? at h1
        split at h1
        · have := mapM_some_get h1 0 0 (by rw [List.getElem?_range hpl])
          have hlen : (F 0 h0).1.length = P.cellsOf e := by simpa using mapM_some_length h1
          rw [List.getElem?_eq_getElem (by omega)] at this
          have := cell_lt this
          simpa [Addr.add] using this
        · cases h1
      · have hj' : j < len := by simpa using hj
        obtain ⟨h1, h2⟩ := hF j hj'
        refine ⟨(F j hj').1, fun i hi => ?_, by simpa using h2⟩
        unfold World.cells? at h1
        split at h1
        · have hlen : (F j hj').1.length = P.cellsOf e := by simpa using mapM_some_length h1
          have := mapM_some_get h1 i i (by rw [List.getElem?_range (by omega)])
          rw [List.getElem?_eq_getElem hi, mk_add, mk_add, R.size] at this
          exact this
        · cases h1
end
/-! ## The arguments of a law -/
section
variable {H : Type} {enc : TypeId × Value → H} {P : Program} {W : World} {base b0 : Nat} {sp : Nat → Bool} {held : Bool} {r : Reach} {t e : TypeId} {v : Value} {d : DataW H} {ps : List MemPlace}
theorem top_slice {α : Type} {T : Ty α} (ht : P.underlying t = some (.slice e)) (R : Rdr P e T) (hval : Value.okWide P W r b0 t v) (h : DataW.Trod enc P W base sp held t v d ps) : ∃ xs, sliceRd T (fun _ => True) W v xs := by
  obtain ⟨n, hn⟩ := h
  obtain ⟨v', xs, hc, hrd, a, l, c, rfl⟩ := trod_rd ht R hn
  have : v = .slice a l c := by
    cases v <;> simp_all [Value.okWide, Cell.okWide, Cell.ok, Value.cells]
  subst this
  exact ⟨xs, hrd⟩
theorem top_arr {n : Nat} (ht : P.underlying t = some (.array n e)) (hn : P.cellsOf t = n) (he : P.cellsOf e = 1) (hval : Value.okWide P W r b0 t v) (h : DataW.Trod enc P W base sp held t v d ps) :
    ∃ cs : List Value, v = .agg cs.toArray ∧ cs.length = n ∧ ∀ i (hi : i < cs.length), ∃ m y, DataW.trod enc P W base sp held m e [cs[i]] = some y := by
  obtain ⟨m, hm⟩ := h
  have hv : ∃ cs, v = .agg cs := by
    unfold Value.okWide at hval
    rw [ht] at hval
    obtain ⟨cs, h, _⟩ := hval
    exact ⟨cs, h⟩
  obtain ⟨cs, rfl⟩ := hv
  obtain ⟨h1, h2⟩ := trod_arr1 ht hn he hm
  exact ⟨cs.toList, by simp, h1, h2⟩
theorem top_i3 (ht : P.underlying t = some (.array 3 e)) (hn : P.cellsOf t = 3) (he : P.cellsOf e = 1) (hi : P.underlying e = some (.int .i64)) (hval : Value.okWide P W r b0 t v) (h : DataW.Trod enc P W base sp held t v d ps) :
    ∃ a b c : Int, v = .agg #[.int .i64 a, .int .i64 b, .int .i64 c] ∧ in64 a ∧ in64 b ∧ in64 c := by
  obtain ⟨cs, rfl, hl, hc⟩ := top_arr ht hn he hval h
  match hcs : cs, hl with
  | [a, b, c], _ =>
    obtain ⟨_, _, ha⟩ := hc 0 (by simp)
    obtain ⟨_, _, hb⟩ := hc 1 (by simp)
    obtain ⟨_, _, hc'⟩ := hc 2 (by simp)
    obtain ⟨a', e1, _, w1⟩ := DataW.trod_int hi ha
    obtain ⟨b', e2, _, w2⟩ := DataW.trod_int hi hb
    obtain ⟨c', e3, _, w3⟩ := DataW.trod_int hi hc'
    simp only [List.getElem_cons_zero, List.getElem_cons_succ, List.cons.injEq, and_true] at e1 e2 e3
    subst e1 e2 e3
    exact ⟨a', b', c', rfl, wf_in64 w1, wf_in64 w2, wf_in64 w3⟩
theorem top_strs {n : Nat} (ht : P.underlying t = some (.array n e)) (hn : P.cellsOf t = n) (he : P.cellsOf e = 1) (hi : P.underlying e = some .string) (hval : Value.okWide P W r b0 t v) (h : DataW.Trod enc P W base sp held t v d ps) :
    ∃ ss : List ByteArray, v = .agg (ss.map Value.string).toArray ∧ ss.length = n ∧ ∀ s ∈ ss, s.size ≤ maxLen := by
  obtain ⟨cs, rfl, hl, hc⟩ := top_arr ht hn he hval h
  have key : ∀ (cs : List Value), (∀ i (hi : i < cs.length), ∃ m y, DataW.trod enc P W base sp held m e [cs[i]] = some y) → ∃ ss : List ByteArray, cs = ss.map Value.string ∧ ∀ s ∈ ss, s.size ≤ maxLen := by
    intro cs
    induction cs with
    | nil => intro _; exact ⟨[], rfl, by simp⟩
    | cons c cs ih =>
      intro h
      obtain ⟨ss, h1, h2⟩ := ih (fun i hi => by have := h (i + 1) (by simpa using hi); simpa only [List.getElem_cons_succ] using this)
      obtain ⟨m, y, h3⟩ := h 0 (by simp)
      obtain ⟨s, e1, _, hs⟩ := DataW.trod_string hi h3
      simp only [List.getElem_cons_zero, List.cons.injEq, and_true] at e1
      exact ⟨s :: ss, by rw [e1, h1]; rfl, fun u hu => by
        rcases List.mem_cons.1 hu with rfl | hu
        · exact hs
        · exact h2 u hu⟩
  obtain ⟨ss, h1, h2⟩ := key cs hc
  subst h1
  exact ⟨ss, rfl, by simpa using hl, h2⟩
end
end Go.PK

/- Of the proofs of YtbamklefagghcaaGreatDoor; see NOTES.md. -/
namespace Go.PK
open Go Go.ChangeShapes Go.WideShapes Go.ChangeAt Go.RowKit
set_option linter.unusedVariables false
section
variable {H : Type} {enc : TypeId × Value → H} {P : Program} {W : World} {base b0 : Nat} {sp : Nat → Bool} {held : Bool} {r : Reach} {t e : TypeId} {v : Value} {d : DataW H} {ps : List MemPlace}
theorem okS_of {s : ByteArray} (h : s.size ≤ maxLen) : okS s := by unfold maxLen at h; unfold okS; omega
theorem top_s4 (ht : P.underlying t = some (.array 4 e)) (hn : P.cellsOf t = 4) (he : P.cellsOf e = 1) (hi : P.underlying e = some .string) (hval : Value.okWide P W r b0 t v) (h : DataW.Trod enc P W base sp held t v d ps) :
    ∃ a b c d : ByteArray, v = .agg #[.string a, .string b, .string c, .string d] ∧ okS a ∧ okS b ∧ okS c ∧ okS d := by
  obtain ⟨ss, rfl, hl, hs⟩ := top_strs ht hn he hi hval h
  match ss, hl, hs with
  | [a, b, c, d], _, hs => exact ⟨a, b, c, d, rfl, okS_of (hs a (by simp)), okS_of (hs b (by simp)), okS_of (hs c (by simp)), okS_of (hs d (by simp))⟩
theorem top_s5 (ht : P.underlying t = some (.array 5 e)) (hn : P.cellsOf t = 5) (he : P.cellsOf e = 1) (hi : P.underlying e = some .string) (hval : Value.okWide P W r b0 t v) (h : DataW.Trod enc P W base sp held t v d ps) :
    ∃ a b c d f : ByteArray, v = .agg #[.string a, .string b, .string c, .string d, .string f] ∧ okS a ∧ okS b ∧ okS c ∧ okS d ∧ okS f := by
  obtain ⟨ss, rfl, hl, hs⟩ := top_strs ht hn he hi hval h
  match ss, hl, hs with
  | [a, b, c, d, f], _, hs => exact ⟨a, b, c, d, f, rfl, okS_of (hs a (by simp)), okS_of (hs b (by simp)), okS_of (hs c (by simp)), okS_of (hs d (by simp)), okS_of (hs f (by simp))⟩
theorem top_str (ht : P.underlying t = some .string) (hval : Value.okWide P W r b0 t v) (h : DataW.Trod enc P W base sp held t v d ps) : ∃ s, v = .string s ∧ okS s := by
  obtain ⟨n, hn⟩ := h
  obtain ⟨s, hc, _, hs⟩ := DataW.trod_string ht hn
  refine ⟨s, ?_, okS_of hs⟩
  cases v <;> simp_all [Value.okWide, Cell.okWide, Cell.ok, Value.cells]
theorem top_int (ht : P.underlying t = some (.int .i64)) (hval : Value.okWide P W r b0 t v) (h : DataW.Trod enc P W base sp held t v d ps) : ∃ n, v = .int .i64 n ∧ in64 n := by
  obtain ⟨m, hn⟩ := h
  obtain ⟨n, hc, _, hs⟩ := DataW.trod_int ht hn
  refine ⟨n, ?_, wf_in64 hs⟩
  cases v <;> simp_all [Value.okWide, Cell.okWide, Cell.ok, Value.cells]
end
end Go.PK

/- Of the proofs of YtbamklefagghcaaGreatDoor; see NOTES.md. -/
/-! Types that are put together: records, arrays, and what the arguments of a law read as. -/
namespace Go.PK
open Go Go.RowKit
set_option linter.unusedVariables false
def tyNil : Ty Unit where
  size := 0
  rd := fun _ _ cs _ => cs = []
  len := fun h => by rw [h]; rfl
  keep := fun h _ => h
def tyCons {α β : Type} (T : Ty α) (U : Ty β) : Ty (α × β) where
  size := T.size + U.size
  rd := fun D w cs x => ∃ a b, cs = a ++ b ∧ T.rd D w a x.1 ∧ U.rd D w b x.2
  len := fun ⟨a, b, h, h1, h2⟩ => by rw [h, List.length_append, T.len h1, U.len h2]
  keep := fun ⟨a, b, h, h1, h2⟩ k => ⟨a, b, h, T.keep h1 k, U.keep h2 k⟩
def Ty.map {α β : Type} (T : Ty α) (f : α → β) : Ty β where
  size := T.size
  rd := fun D w cs y => ∃ x, T.rd D w cs x ∧ f x = y
  len := fun ⟨x, h, _⟩ => T.len h
  keep := fun ⟨x, h, e⟩ k => ⟨x, T.keep h k, e⟩
def tyBool : Ty Bool where
  size := 1
  rd := fun _ _ cs x => cs = [.bool x]
  len := fun h => by rw [h]; rfl
  keep := fun h _ => h
def tyK (k : IntKind) : Ty Int where
  size := 1
  rd := fun _ _ cs x => cs = [.int k x] ∧ k.min ≤ x ∧ x ≤ k.max
  len := fun h => by rw [h.1]; rfl
  keep := fun h _ => h
def tyArr {α : Type} (T : Ty α) : Nat → Ty (List α)
  | 0 => tyNil.map fun _ => []
  | n + 1 => (tyCons T (tyArr T n)).map fun p => p.1 :: p.2
theorem tyArr_size {α : Type} (T : Ty α) : ∀ n, (tyArr T n).size = n * T.size
  | 0 => by rw [Nat.zero_mul]; rfl
  | n + 1 => by
    show T.size + (tyArr T n).size = _
    rw [tyArr_size T n, Nat.succ_mul, Nat.add_comm]
theorem arr_bool {D : Nat → Prop} {w : World} : ∀ {n : Nat} {cs : List Value} {xs : List Bool}, (tyArr tyBool n).rd D w cs xs → cs = xs.map Value.bool ∧ xs.length = n
  | 0, cs, xs, h => by
    obtain ⟨x, h1, h2⟩ := h
    subst h2
    exact ⟨h1, rfl⟩
  | n + 1, cs, xs, h => by
    obtain ⟨⟨a, as⟩, ⟨ca, cb, h0, h1, h2⟩, h3⟩ := h
    obtain ⟨h4, h5⟩ := arr_bool h2
    have h1 : ca = [.bool a] := h1
    subst h3
    dsimp only at h4 h5
    exact ⟨by rw [h0, h1, h4]; rfl, by simp [h5]⟩
theorem arr_k {k : IntKind} {D : Nat → Prop} {w : World} : ∀ {n : Nat} {cs : List Value} {xs : List Int}, (tyArr (tyK k) n).rd D w cs xs → cs = xs.map (Value.int k) ∧ xs.length = n ∧ ∀ x ∈ xs, k.min ≤ x ∧ x ≤ k.max
  | 0, cs, xs, h => by
    obtain ⟨x, h1, h2⟩ := h
    subst h2
    exact ⟨h1, rfl, by simp⟩
  | n + 1, cs, xs, h => by
    obtain ⟨⟨a, as⟩, ⟨ca, cb, h0, h1, h2⟩, h3⟩ := h
    obtain ⟨h4, h5, h6⟩ := arr_k h2
    obtain ⟨h1, hb⟩ : ca = [.int k a] ∧ k.min ≤ a ∧ a ≤ k.max := h1
    subst h3
    dsimp only at h4 h5 h6
    refine ⟨by rw [h0, h1, h4]; rfl, by simp [h5], fun x hx => ?_⟩
    rcases List.mem_cons.1 hx with rfl | hx
    · exact hb
    · exact h6 x hx
section
variable {P : Program}
theorem wf_k {k : IntKind} {n : Int} (h : (Lit.int k n).wf = true) : k.min ≤ n ∧ n ≤ k.max := by
  simpa only [Lit.wf, Bool.and_eq_true, decide_eq_true_eq] using h
theorem rdr_bool {t : TypeId} (ht : P.underlying t = some .bool) (hc : P.cellsOf t = 1) : Rdr P t tyBool :=
  ⟨hc, Nat.one_pos, fun h => by obtain ⟨b, rfl, _⟩ := DataW.trod_bool ht h; exact ⟨b, rfl⟩⟩
theorem rdr_k {t : TypeId} {k : IntKind} (ht : P.underlying t = some (.int k)) (hc : P.cellsOf t = 1) : Rdr P t (tyK k) :=
  ⟨hc, Nat.one_pos, fun h => by obtain ⟨n, rfl, _, hw⟩ := DataW.trod_int ht h; exact ⟨n, rfl, wf_k hw⟩⟩
theorem rdr_map {α β : Type} {T : Ty α} {t : TypeId} {f : α → β} (R : Rdr P t T) : Rdr P t (T.map f) :=
  ⟨R.size, R.pos, fun h => by obtain ⟨y, hy⟩ := R.rd h; exact ⟨f y, y, hy, rfl⟩⟩
theorem rdr_slice {α : Type} {T : Ty α} {t e : TypeId} (ht : P.underlying t = some (.slice e)) (hc : P.cellsOf t = 1) (R : Rdr P e T) : Rdr P t (tySlice T) :=
  ⟨hc, Nat.one_pos, fun h => by obtain ⟨v, xs, e1, h1, _⟩ := trod_rd ht R h; exact ⟨xs, v, e1, h1⟩⟩
theorem arr_of {α : Type} {T : Ty α} {w : World} : ∀ (n : Nat) (cs : List Value), cs.length = n * T.size → (∀ i, i < n → ∃ y, T.rd (fun _ => True) w ((cs.drop (i * T.size)).take T.size) y) → ∃ ys, (tyArr T n).rd (fun _ => True) w cs ys
  | 0, cs, hl, _ => ⟨[], (), List.eq_nil_of_length_eq_zero (by rw [hl, Nat.zero_mul]), rfl⟩
  | n + 1, cs, hl, h => by
    obtain ⟨y, hy⟩ := h 0 (Nat.succ_pos n)
    rw [Nat.zero_mul, List.drop_zero] at hy
    obtain ⟨ys, hys⟩ := arr_of (T := T) (w := w) n (cs.drop T.size) (by rw [List.length_drop, hl, Nat.succ_mul]; omega) (fun i hi => by
      obtain ⟨z, hz⟩ := h (i + 1) (by omega)
      rw [Nat.succ_mul, Nat.add_comm, ← List.drop_drop] at hz
      exact ⟨z, hz⟩)
    exact ⟨y :: ys, (y, ys), ⟨_, _, (List.take_append_drop T.size cs).symm, hy, hys⟩, rfl⟩
theorem rdr_arr {α : Type} {T : Ty α} {t e : TypeId} {n : Nat} (ht : P.underlying t = some (.array n e)) (hc : P.cellsOf t = n * T.size) (hn : 0 < n) (R : Rdr P e T) : Rdr P t (tyArr T n) :=
  ⟨by rw [tyArr_size]; exact hc, by rw [tyArr_size]; exact Nat.mul_pos hn R.pos, @fun H enc w base sp held fuel cs x h => by
    obtain ⟨xs, m, _, _, hl, hx, hh⟩ := DataW.trod_array ht h
    refine arr_of n cs (by rw [hl, hc]) fun i hi => ?_
    have h1 := hh i hi
    rw [List.getElem?_eq_getElem (by omega), R.size] at h1
    exact R.rd h1⟩
inductive Flds (P : Program) : Nat → List Field → (β : Type) → Ty β → Prop where
  | nil (off : Nat) : Flds P off [] Unit tyNil
  | cons {α β : Type} {T : Ty α} {U : Ty β} {off : Nat} {f : Field} {fs : List Field} (ho : f.offset = off) (R : Rdr P f.type T) (h : Flds P (off + T.size) fs β U) : Flds P off (f :: fs) (α × β) (tyCons T U)
theorem flds_of {H : Type} {enc : TypeId × Value → H} {w : World} {base m : Nat} {sp : Nat → Bool} {held : Bool} {cs : List Value} {off : Nat} {fs : List Field} {β : Type} {U : Ty β} (F : Flds P off fs β U) :
    (∀ f ∈ fs, ∃ x, DataW.trod enc P w base sp held m f.type ((cs.drop f.offset).take (P.cellsOf f.type)) = some x) → cs.length = off + U.size → ∃ y, U.rd (fun _ => True) w (cs.drop off) y := by
  induction F with
  | nil off => exact fun _ hl => ⟨(), List.drop_eq_nil_of_le (by rw [hl]; exact Nat.le_refl _)⟩
  | @cons α β T U off f fs ho R F ih =>
    intro h hl
    have hl : cs.length = off + (T.size + U.size) := hl
    obtain ⟨y, hy⟩ := ih (fun g hg => h g (List.mem_cons_of_mem _ hg)) (by omega)
    obtain ⟨x, hx⟩ := h f (List.mem_cons_self ..)
    rw [ho, R.size] at hx
    obtain ⟨z, hz⟩ := R.rd hx
    refine ⟨(z, y), _, _, (List.take_append_drop T.size _).symm, hz, ?_⟩
    rw [List.drop_drop]
    exact hy
theorem rdr_struct {t : TypeId} {fs : Array Field} {β : Type} {U : Ty β} (ht : P.underlying t = some (.struct fs)) (hc : P.cellsOf t = U.size) (hp : 0 < U.size) (F : Flds P 0 fs.toList β U) : Rdr P t U :=
  ⟨hc, hp, @fun H enc w base sp held fuel cs x h => by
    obtain ⟨xs, m, _, _, hl, hx, hh⟩ := DataW.trod_struct ht h
    have := flds_of (enc := enc) (base := base) (sp := sp) (held := held) (m := m) (cs := cs) (w := w) F (fun f hf => by
      obtain ⟨i, hi, rfl⟩ := List.mem_iff_getElem.1 hf
      have h1 := hh i fs.toList[i] (by simp)
      have hi' : i < fs.size := by simpa using hi
      rw [List.getElem?_eq_getElem (by omega)] at h1
      exact ⟨_, h1⟩) (by rw [hl, hc]; omega)
    simpa using this⟩
variable {H : Type} {enc : TypeId × Value → H} {W : World} {base b0 : Nat} {sp : Nat → Bool} {held : Bool} {r : Reach} {t e : TypeId} {v : Value} {d : DataW H} {ps : List MemPlace}
theorem top_rd {α : Type} {T : Ty α} (R : Rdr P t T) (h : DataW.Trod enc P W base sp held t v d ps) : ∃ y, T.rd (fun _ => True) W v.cells.toList y := by
  obtain ⟨n, hn⟩ := h
  exact R.rd hn
theorem top_agg {α : Type} {T : Ty α} {td : TypeDesc} (ht : P.underlying t = some td) (hd : aggT td = true) (R : Rdr P t T) (hval : Value.okWide P W r b0 t v) (h : DataW.Trod enc P W base sp held t v d ps) : ∃ cs y, v = .agg cs ∧ T.rd (fun _ => True) W cs.toList y := by
  obtain ⟨y, hy⟩ := top_rd R h
  have hv : ∃ cs, v = .agg cs := by
    unfold Value.okWide at hval
    rw [ht] at hval
    cases td <;> simp_all [aggT]
    all_goals (obtain ⟨cs, h, _⟩ := hval; exact ⟨cs, h⟩)
  obtain ⟨cs, rfl⟩ := hv
  exact ⟨cs, y, rfl, hy⟩
theorem top_k {k : IntKind} (ht : P.underlying t = some (.int k)) (hval : Value.okWide P W r b0 t v) (h : DataW.Trod enc P W base sp held t v d ps) : ∃ n, v = .int k n ∧ k.min ≤ n ∧ n ≤ k.max := by
  obtain ⟨m, hm⟩ := h
  obtain ⟨n, hc, _, hw⟩ := DataW.trod_int ht hm
  refine ⟨n, ?_, wf_k hw⟩
  cases v <;> simp_all [Value.okWide, Cell.okWide, Cell.ok, Value.cells]
theorem top_bool (ht : P.underlying t = some .bool) (hval : Value.okWide P W r b0 t v) (h : DataW.Trod enc P W base sp held t v d ps) : ∃ b, v = .bool b := by
  obtain ⟨m, hm⟩ := h
  obtain ⟨n, hc, _⟩ := DataW.trod_bool ht hm
  refine ⟨n, ?_⟩
  cases v <;> simp_all [Value.okWide, Cell.okWide, Cell.ok, Value.cells]
end
end Go.PK

/- Of the proofs of YtbamklefagghcaaGreatDoor; see NOTES.md. -/
/-! Several results. -/
namespace Go.PK
open Go Go.RowKit
section
variable {P : Program} {n : Nat} {l : List (Nat × Value)} {own : List (Nat × Obj)} {ro : List Snap} {ty : TypeId} {x : Operand}
theorem v_extract {vs : Array Value} {i : Nat} {v : Value} (hx : ev l x = some (.tuple vs)) (hv : vs[i]? = some v) : OpV P n l own ro (.extract x i) ty v := by
  intro A w o ha _ ho _
  simp [execOp, ho, ha.eval hx, Instr.extract, hv]
end
end Go.PK

/- Of the proofs of YtbamklefagghcaaGreatDoor; see NOTES.md. -/
/-! Days and dates: the plain functions of chapter 14. -/
namespace Go.PK
open Go Go.RowKit
set_option linter.unusedVariables false
def leapP (y : Int) : Bool := decide (y % 4 = 0) && (decide (y % 100 ≠ 0) || decide (y % 400 = 0))
def mlen (y m : Int) : Int := if m = 4 ∨ m = 6 ∨ m = 9 ∨ m = 11 then 30 else if m = 2 then (if leapP y = true then 29 else 28) else 31
def NY (y : Int) : Int := -719162 + 365 * (y - 1) + (y - 1) / 4 - (y - 1) / 100 + (y - 1) / 400
/-- The days of the first k months. -/
def moff (y : Int) : Nat → Int
  | 0 => 0
  | k + 1 => moff y k + mlen y ((k + 1 : Nat) : Int)
theorem leap_iff (y : Int) : leapP y = true ↔ y % 4 = 0 ∧ (y % 100 ≠ 0 ∨ y % 400 = 0) := by simp [leapP]
theorem mlen_rng (y m : Int) : 28 ≤ mlen y m ∧ mlen y m ≤ 31 := by unfold mlen; split <;> (try split) <;> (try split) <;> omega
theorem NY_succ {y : Int} : NY (y + 1) = NY y + (if leapP y = true then 366 else 365) := by
  have h := leap_iff y
  unfold NY
  split
  · rename_i hl; have := h.1 hl; omega
  · rename_i hl
    have : ¬(y % 4 = 0 ∧ (y % 100 ≠ 0 ∨ y % 400 = 0)) := fun x => hl (h.2 x)
    omega
theorem moff12 (y : Int) : moff y 12 = if leapP y = true then 366 else 365 := by
  simp only [moff, mlen]
  cases leapP y <;> simp
theorem NY_next (y : Int) : NY (y + 1) = NY y + moff y 12 := by rw [NY_succ, moff12]
theorem NY_lt (y : Int) : NY y + 365 ≤ NY (y + 1) := by rw [NY_succ]; split <;> omega
theorem NY_mono (y : Int) : ∀ n : Nat, NY y ≤ NY (y + n)
  | 0 => by simp
  | n + 1 => by
    have h1 := NY_mono y n
    have h2 := NY_lt (y + n)
    have e : y + ((n + 1 : Nat) : Int) = y + n + 1 := by omega
    rw [e]; omega
theorem NY_le {y z : Int} (h : y ≤ z) : NY y ≤ NY z := by
  have := NY_mono y (z - y).toNat
  rwa [show y + (((z - y).toNat : Nat) : Int) = z by omega] at this
theorem moff_mono (y : Int) (k : Nat) : ∀ n : Nat, moff y k ≤ moff y (k + n)
  | 0 => Int.le_refl _
  | n + 1 => by
    have h1 := moff_mono y k n
    have h2 := mlen_rng y ((k + n + 1 : Nat) : Int)
    show moff y k ≤ moff y (k + n) + mlen y ((k + n + 1 : Nat) : Int)
    omega
theorem moff_le {y : Int} {k m : Nat} (h : k ≤ m) : moff y k ≤ moff y m := by
  have := moff_mono y k (m - k)
  rwa [show k + (m - k) = m by omega] at this
theorem moff_nonneg (y : Int) (k : Nat) : 0 ≤ moff y k := moff_le (Nat.zero_le k)
/-- The number of a date. -/
def dayN (y : Int) (m : Nat) (d : Int) : Int := NY y + d - 1 + moff y (m - 1)
structure Civ (day y : Int) (m : Nat) (d : Int) : Prop where
  y1 : 1 ≤ y
  m1 : 1 ≤ m
  m2 : m ≤ 12
  d1 : 1 ≤ d
  d2 : d ≤ mlen y m
  is : dayN y m d = day
theorem moff_pred (y : Int) {m : Nat} (h : 1 ≤ m) : moff y m = moff y (m - 1) + mlen y m := by
  obtain ⟨k, rfl⟩ : ∃ k, m = k + 1 := ⟨m - 1, by omega⟩
  rfl
theorem Civ.year {day y d : Int} {m : Nat} (h : Civ day y m d) : NY y ≤ day ∧ day < NY (y + 1) := by
  have h1 := moff_nonneg y (m - 1)
  have h2 := moff_pred y h.m1
  have h3 := moff_le (y := y) h.m2
  have h4 := NY_next y
  have := h.is; have := h.d1; have := h.d2
  unfold dayN at this
  have e := h.is
  unfold dayN at e
  omega
theorem Civ.unique {day y d y' d' : Int} {m m' : Nat} (h : Civ day y m d) (h' : Civ day y' m' d') : y = y' ∧ m = m' ∧ d = d' := by
  have a := h.year
  have b := h'.year
  have hy : y = y' := by
    rcases Int.lt_trichotomy y y' with hlt | he | hlt
    · have := NY_le (show y + 1 ≤ y' by omega); omega
    · exact he
    · have := NY_le (show y' + 1 ≤ y by omega); omega
  subst hy
  have e1 := h.is
  have e2 := h'.is
  unfold dayN at e1 e2
  have p1 := moff_pred y h.m1
  have p2 := moff_pred y h'.m1
  have hm : m = m' := by
    rcases Nat.lt_trichotomy m m' with hlt | he | hlt
    · have := moff_le (y := y) (show m ≤ m' - 1 by omega)
      have := h.d1; have := h.d2; have := h'.d1; omega
    · exact he
    · have := moff_le (y := y) (show m' ≤ m - 1 by omega)
      have := h.d1; have := h'.d1; have := h'.d2; omega
  subst hm
  exact ⟨rfl, rfl, by omega⟩
def okDay (day : Int) : Prop := -719162 ≤ day ∧ day ≤ 2932896
instance (day : Int) : Decidable (okDay day) := by unfold okDay; infer_instance
theorem NY_first : NY 1 = -719162 := by decide
theorem NY_last : NY 10000 = 2932897 := by decide
theorem Civ.range {day y d : Int} {m : Nat} (h : Civ day y m d) : okDay day ↔ y ≤ 9999 := by
  have a := h.year
  constructor
  · intro hd
    rcases Int.lt_or_le y 10000 with hl | hl
    · omega
    · have := NY_le hl; rw [NY_last] at this; unfold okDay at hd; omega
  · intro hy
    have h1 := NY_le h.y1
    have h2 := NY_le (show y + 1 ≤ 10000 by omega)
    rw [NY_first] at h1
    rw [NY_last] at h2
    unfold okDay; omega
theorem wk_eq (day : Int) : ((day.tmod 7) + 7 + 3).tmod 7 = (day + 3) % 7 := by
  rcases Int.le_total 0 day with h | h
  · rw [Int.tmod_eq_emod_of_nonneg h, Int.tmod_eq_emod_of_nonneg (by omega)]; omega
  · have e : day.tmod 7 = -((-day) % 7) := by
      have : day = -(-day) := by omega
      rw [this, Int.neg_tmod, Int.tmod_eq_emod_of_nonneg (by omega)]; simp
    rw [e, Int.tmod_eq_emod_of_nonneg (by omega)]; omega
end Go.PK

/- Of the proofs of YtbamklefagghcaaGreatDoor; see NOTES.md. -/
namespace Go.PK
open Go Go.RowKit
set_option linter.unusedVariables false
def validD (y m d : Int) : Prop := 1 ≤ y ∧ y ≤ 9999 ∧ 1 ≤ m ∧ m ≤ 12 ∧ 1 ≤ d ∧ d ≤ mlen y m
instance (y m d : Int) : Decidable (validD y m d) := by unfold validD; infer_instance
def dayV (y m d : Int) : Int := if validD y m d then dayN y m.toNat d else 0
theorem NY_rng {y : Int} (h : 1 ≤ y ∧ y ≤ 10000) : -719162 ≤ NY y ∧ NY y ≤ 2932897 := by
  have h1 := NY_le h.1
  have h2 := NY_le h.2
  rw [NY_first] at h1; rw [NY_last] at h2
  exact ⟨h1, h2⟩
theorem moff_ub {y : Int} {k : Nat} (h : k ≤ 12) : moff y k ≤ 366 := by
  have h1 := moff_le (y := y) h
  rw [moff12] at h1
  split at h1 <;> omega
open Classical in
/-- The date of a day. -/
noncomputable def civ (day : Int) : Int × Nat × Int := if okDay day then (if h : ∃ p : Int × Nat × Int, Civ day p.1 p.2.1 p.2.2 then h.choose else (0, 0, 0)) else (0, 0, 0)
theorem civ_eq {day y d : Int} {m : Nat} (ho : okDay day) (h : Civ day y m d) : civ day = (y, m, d) := by
  have hex : ∃ p : Int × Nat × Int, Civ day p.1 p.2.1 p.2.2 := ⟨(y, m, d), h⟩
  unfold civ
  rw [if_pos ho, dif_pos hex]
  obtain ⟨e1, e2, e3⟩ := hex.choose_spec.unique h
  exact Prod.ext e1 (Prod.ext e2 e3)
theorem civ_no {day : Int} (ho : ¬okDay day) : civ day = (0, 0, 0) := by unfold civ; rw [if_neg ho]
end Go.PK

/- Of the proofs of YtbamklefagghcaaGreatDoor; see NOTES.md. -/
namespace Go.PK
open Go Go.RowKit
set_option linter.unusedVariables false
/-- What a calendar's cells hold. -/
def calC (wk : List Bool) (v : Value) : List Value := wk.map Value.bool ++ [v]
theorem calC_wk {wk : List Bool} {v : Value} {j : Nat} (h : j < wk.length) : (calC wk v)[j]? = some (.bool (wk.getD j false)) := by
  unfold calC
  rw [List.getElem?_append_left (by simpa using h), List.getElem?_map, List.getD_eq_getElem?_getD, List.getElem?_eq_getElem h]
  rfl
theorem calC_v {wk : List Bool} {v : Value} (h : wk.length = 7) : (calC wk v)[7]? = some v := by
  unfold calC
  rw [List.getElem?_append_right (by simp [h])]
  simp [h]
def hasI (ds : List Int) (n : Int) : Bool := ds.any (fun x => decide (n = x))
def openP (wk : List Bool) (ds : List Int) (n : Int) : Bool := decide (okDay n) && !wk.getD ((n + 3) % 7).toNat false && !hasI ds n
/-- The closed days are in order. -/
def rightTo (ds : List Int) (k : Nat) : Prop := ∀ j (h : j < ds.length), j < k → okDay ds[j] ∧ ∀ h0 : 0 < j, ds[j - 1] < ds[j]
noncomputable def rightP (ds : List Int) : Bool := @decide (rightTo ds ds.length) (Classical.propDecidable _)
theorem right_yes {ds : List Int} (h : rightTo ds ds.length) : rightP ds = true := by unfold rightP; exact @decide_eq_true _ (Classical.propDecidable _) h
theorem right_no {ds : List Int} {k : Nat} (hk : k < ds.length) (h : ¬(okDay ds[k] ∧ ∀ h0 : 0 < k, ds[k - 1] < ds[k])) : rightP ds = false := by
  unfold rightP; exact @decide_eq_false _ (Classical.propDecidable _) (fun hr => h (hr k hk hk))
theorem int_at {D : Nat → Prop} {w : World} {A : Option Addr} {l c : Nat} {xs : List Int} (h : sliceRd tyI D w (.slice A l c) xs) {k : Nat} (hk : k < xs.length) :
    ∃ b off, A = some ⟨b, off, none⟩ ∧ D b ∧ w.cell? ⟨b, off + k, none⟩ = some (.int .i64 xs[k]) ∧ in64 xs[k] := by
  obtain ⟨A', c', e, h1, h2, h3⟩ := h
  injection e with e1 e2 e3
  obtain ⟨b, off, hA, hD, hb, hc⟩ := h3 (by omega)
  obtain ⟨cs, hcs, rfl, hok⟩ := hc k hk
  have := hcs 0 (by simp)
  exact ⟨b, off, e1.trans hA, hD, by simpa [tyI] using this, hok⟩
end Go.PK

/- Of the proofs of YtbamklefagghcaaGreatDoor; see NOTES.md. -/
/-! max, min, shifts, bits. -/
namespace Go.PK
open Go Go.RowKit
set_option linter.unusedVariables false
section
variable {P : Program} {n : Nat} {l : List (Nat × Value)} {own : List (Nat × Obj)} {ro : List Snap} {ty : TypeId} {x y : Operand} {t t' : TypeId} {k k' : IntKind} {a b : Int}
theorem v_max {tys : Array TypeId} (hx : ev l x = some (.int k a)) (hy : ev l y = some (.int k' b)) : OpV P n l own ro (.call ⟨.builtin .max, #[x, y], tys⟩) ty (.int k (max a b)) := by
  intro A w o ha _ ho _
  have e : (if a < b then b else a) = max a b := by omega
  simp [execOp, ho, resolve, invoke, builtin, ha.eval hx, ha.eval hy, Builtin.max_, Builtin.max2, e]
theorem v_min {tys : Array TypeId} (hx : ev l x = some (.int k a)) (hy : ev l y = some (.int k' b)) : OpV P n l own ro (.call ⟨.builtin .min, #[x, y], tys⟩) ty (.int k (min a b)) := by
  intro A w o ha _ ho _
  have e : (if b < a then b else a) = min a b := by omega
  simp [execOp, ho, resolve, invoke, builtin, ha.eval hx, ha.eval hy, Builtin.min_, Builtin.min2, e]
theorem v_shr (hx : ev l x = some (.int k a)) (hy : ev l y = some (.int k' b)) (h0 : 0 ≤ b) {c : Int} (hc : a / 2 ^ min b.toNat k.bits = c) : OpV P n l own ro (.binOp .shr t x y t') ty (.int k c) := by
  intro A w o ha _ ho _
  have hp : (0 : Int) ≤ 2 ^ min b.toNat k.bits := Int.pow_nonneg (by decide)
  have h1 : ¬ b < 0 := by omega
  simp [execOp, ho, ha.eval hx, ha.eval hy, eqGuard, binOp, Op.shift, h1, Int.fdiv_eq_ediv_of_nonneg _ hp, hc]
theorem v_shl (hx : ev l x = some (.int k a)) (hy : ev l y = some (.int k' b)) (h0 : 0 ≤ b) {c : Int} (hc : k.wrap (a * 2 ^ min b.toNat k.bits) = c) : OpV P n l own ro (.binOp .shl t x y t') ty (.int k c) := by
  intro A w o ha _ ho _
  have h1 : ¬ b < 0 := by omega
  simp [execOp, ho, ha.eval hx, ha.eval hy, eqGuard, binOp, Op.shift, h1, hc]
def andK (k : IntKind) (a b : Int) : Int := k.wrap (BitVec.ofInt k.bits a &&& BitVec.ofInt k.bits b).toNat
def orK (k : IntKind) (a b : Int) : Int := k.wrap (BitVec.ofInt k.bits a ||| BitVec.ofInt k.bits b).toNat
def xorK (k : IntKind) (a b : Int) : Int := k.wrap (BitVec.ofInt k.bits a ^^^ BitVec.ofInt k.bits b).toNat
def andNotK (k : IntKind) (a b : Int) : Int := k.wrap (BitVec.ofInt k.bits a &&& ~~~BitVec.ofInt k.bits b).toNat
theorem v_andK (hx : ev l x = some (.int k a)) (hy : ev l y = some (.int k b)) : OpV P n l own ro (.binOp .and t x y t') ty (.int k (andK k a b)) := by
  intro A w o ha _ ho _
  simp [execOp, ho, ha.eval hx, ha.eval hy, eqGuard, binOp, Op.intBits, andK]
theorem v_orK (hx : ev l x = some (.int k a)) (hy : ev l y = some (.int k b)) : OpV P n l own ro (.binOp .or t x y t') ty (.int k (orK k a b)) := by
  intro A w o ha _ ho _
  simp [execOp, ho, ha.eval hx, ha.eval hy, eqGuard, binOp, Op.intBits, orK]
theorem v_xorK (hx : ev l x = some (.int k a)) (hy : ev l y = some (.int k b)) : OpV P n l own ro (.binOp .xor t x y t') ty (.int k (xorK k a b)) := by
  intro A w o ha _ ho _
  simp [execOp, ho, ha.eval hx, ha.eval hy, eqGuard, binOp, Op.intBits, xorK]
theorem v_andNotK (hx : ev l x = some (.int k a)) (hy : ev l y = some (.int k b)) : OpV P n l own ro (.binOp .andNot t x y t') ty (.int k (andNotK k a b)) := by
  intro A w o ha _ ho _
  simp [execOp, ho, ha.eval hx, ha.eval hy, eqGuard, binOp, Op.intBits, andNotK]
theorem v_len_arr {e : TypeId} {N : Nat} {cs : Array Value} (ht : P.underlying t = some (.array N e)) (hx : ev l x = some (.agg cs)) : OpV P n l own ro (.call ⟨.builtin .len, #[x], #[t]⟩) ty (.int .i64 N) := by
  intro a w o ha _ ho _
  simp [execOp, ho, resolve, invoke, builtin, ha.eval hx, Builtin.len_, run_underlying ht, goInt]
end
end Go.PK
