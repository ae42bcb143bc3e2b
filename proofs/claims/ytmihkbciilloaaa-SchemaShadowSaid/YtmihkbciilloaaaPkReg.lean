/- Of the proofs of Ytmihkbciilloaaa; see NOTES.md. -/
import Derived.StillTail
import Derived.Deep.Quiet
import Derived.Deep.Draws
import Derived.Below
namespace Go.PK
open Go Go.RowKit

/-- A later world: nothing that was there has turned. -/
def Later (w w' : World) : Prop := Below w.heap.size w w'
theorem Later.refl (w : World) : Later w w := Below.refl _ _
theorem Later.trans {a b c : World} (h : Later a b) (k : Later b c) : Later a c := Below.trans h (Below.mono k h.size)
theorem Later.drew (w : World) : Later w w.drew := (Below.refl _ _).drew
theorem Later.drewN (w : World) (n : Nat) : Later w (w.drewN n) := ⟨rfl, rfl, rfl, Nat.le_refl _, fun _ _ => rfl⟩
theorem Later.alloc (w : World) (o : Obj) : Later w (w.alloc o) := (Below.refl _ _).alloc (Nat.le_refl _) o

section
variable {P : Program} {ops : Array Oper} {md : Region.Mode}

def fltUpon (P : Program) (w : World) (v : Value) : Result Next → Prop
  | .ok (.value u) w' => w' = w ∧ u = v
  | .ok .skip w' => w' = w ∧ v = undef
  | .ok (.enter f args) w' => w' = w ∧ Calls P f args w (fun e w'' => e = .returned v ∧ Later w w'')
  | _ => False
def fltAt (P : Program) (o : Oper) (a : Act) (w : World) (v : Value) : Prop := fltUpon P w v ((execOp a.eval o).run P w)
def flt (P : Program) (o : Oper) (a : Act) (w : World) (next : Act → Prop) : Prop := ∃ v, (∀ w', Later w w' → fltAt P o a w' v) ∧ next (a.put o.dst v)
/-- An operation that makes memory, from any later world on. -/
def grw (P : Program) (o : Oper) (a : Act) (w : World) (next : Act → World → Prop) : Prop :=
  ∀ w', Later w w' → o.wp P a w' (fun a'' w'' => Later w' w'' ∧ next a'' w'') (fun _ _ _ => False)

/-- The walk of one order: 'true': an operation that yields the same whenever it comes up; 'false': one that makes memory, and that every other one waits for or comes before. -/
def wpCan (P : Program) (ops : Array Oper) (Q : Act → World → Prop) : List (Bool × Nat) → Act → World → Prop
  | [], a, w => Q a w
  | (b, i) :: rest, a, w =>
    match ops[i]? with
    | none => False
    | some o =>
      if Region.wanted o (yielded ops a.tmps) then
        (match b with
         | true => flt P o a w (fun a' => wpCan P ops Q rest a' w)
         | false => grw P o a w (wpCan P ops Q rest))
      else wpCan P ops Q rest (a.put o.dst undef) w

/-- One operation of the tree. -/
def canOp (P : Program) (ops : Array Oper) (i : Nat) (K : Act → World → Prop) (a : Act) (w : World) : Prop :=
  ∀ w', Later w w' → wpOp P ops (fun _ _ _ => False) i (fun a'' w'' => Later w' w'' ∧ K a'' w'') a w'

theorem canOp_mono {i : Nat} {a : Act} {w : World} {K K' : Act → World → Prop} (h : ∀ a w, K a w → K' a w) (hh : canOp P ops i K a w) : canOp P ops i K' a w :=
  fun w' hw => wpOp_mono (fun _ _ hk => ⟨hk.1, h _ _ hk.2⟩) (hh w' hw)
theorem canOp_later {i : Nat} {a : Act} {w w1 : World} {K : Act → World → Prop} (hw : Later w w1) (hh : canOp P ops i K a w) : canOp P ops i K a w1 :=
  fun w' hw' => hh w' (hw.trans hw')

/-- Whatever order is picked from here on, over the operations before n. -/
def wpAnyC (P : Program) (md : Region.Mode) (ops : Array Oper) (n : Nat) (L : Array Bool → Act → World → Prop) : Nat → Array Bool → Act → World → Prop
  | 0, listed, a, w => L listed a w
  | f + 1, listed, a, w =>
    Region.ready md ops listed ≠ [] ∧ ∀ i ∈ Region.ready md ops listed, i < n ∧ canOp P ops i (wpAnyC P md ops n L f (listed.setIfInBounds i true)) a w

def LaterClosed (L : Array Bool → Act → World → Prop) : Prop := ∀ listed a w w', Later w w' → L listed a w → L listed a w'

theorem wpAnyC_later {n : Nat} {L : Array Bool → Act → World → Prop} (hL : LaterClosed L) : ∀ (f : Nat) (listed : Array Bool) (a : Act) (w w' : World), Later w w' →
    wpAnyC P md ops n L f listed a w → wpAnyC P md ops n L f listed a w'
  | 0, _, _, _, _, h, hh => hL _ _ _ _ h hh
  | _ + 1, _, _, _, _, h, hh => ⟨hh.1, fun i hi => ⟨(hh.2 i hi).1, canOp_later h (hh.2 i hi).2⟩⟩

theorem wpAny_of_can {n g : Nat} {L : Array Bool → Act → World → Prop} {Q' : Exit → Act → World → Prop} (hL : ∀ listed a w, L listed a w → wpAny P md ops Q' g listed a w) :
    ∀ (f : Nat) (listed : Array Bool) (a : Act) (w : World), wpAnyC P md ops n L f listed a w → wpAny P md ops Q' (f + g) listed a w
  | 0, listed, a, w, h => by rw [Nat.zero_add]; exact hL _ _ _ h
  | f + 1, listed, a, w, h => by
    rw [show f + 1 + g = (f + g) + 1 by omega]
    refine ⟨fun h0 => absurd h0 h.1, fun i hi => ?_⟩
    have h1 := (h.2 i hi).2 w (Later.refl w)
    have h2 : wpOp P ops (fun _ _ _ => False) i (wpAny P md ops Q' (f + g) (listed.setIfInBounds i true)) a w :=
      wpOp_mono (fun a' w' h' => wpAny_of_can hL f _ a' w' h'.2) h1
    -- the exits other than the normal one do not come up
    unfold wpOp at h2 ⊢
    split
    · rename_i ho; simp only [ho] at h2; exact h2
    · rename_i o ho
      simp only [ho] at h2
      split
      · rename_i hw
        simp only [hw, if_true] at h2
        rcases h2 with h2 | ⟨_, _, _, h2⟩
        · refine .inl ?_
          unfold Oper.wp at h2 ⊢
          generalize (execOp a.eval o).run P w = r at *
          cases r with
          | ok x w' =>
            cases x <;> simp only [Oper.upon] at h2 ⊢ <;> first
              | exact h2
              | (refine Calls.mono h2 fun e w'' he => ?_
                 cases e with
                 | returned u => exact he
                 | panicked c => exact he.elim
                 | outgrown => obtain ⟨_, _, hf⟩ := he; exact hf.elim)
          | halt x w' => cases x <;> simp only [Oper.upon] at h2 ⊢
        · exact h2.elim
      · rename_i hw
        simp only [hw] at h2
        exact h2

/-- In state 'a', in every world later than 'w', operation 'o' leaves 'v' in its temporary and a later world. -/
def YieldsC (P : Program) (ops : Array Oper) (o : Oper) (v : Value) (a : Act) (w : World) : Prop :=
  (Region.wanted o (yielded ops a.tmps) = true ∧ ∀ w', Later w w' → fltAt P o a w' v) ∨ (Region.wanted o (yielded ops a.tmps) = false ∧ v = undef)

theorem YieldsC.later {o : Oper} {v : Value} {a : Act} {w w' : World} (hw : Later w w') (h : YieldsC P ops o v a w) : YieldsC P ops o v a w' :=
  h.imp (fun h => ⟨h.1, fun w1 h1 => h.2 w1 (hw.trans h1)⟩) id
theorem YieldsC.of_same {o : Oper} {v : Value} {a a' : Act} {w : World} (hy : YieldsC P ops o v a w) (he : execOp a'.eval o = execOp a.eval o)
    (hw : Region.wanted o (yielded ops a'.tmps) = Region.wanted o (yielded ops a.tmps)) : YieldsC P ops o v a' w := by
  unfold YieldsC fltAt at *
  rw [he, hw]
  exact hy

theorem YieldsC.canOp {i : Nat} {o : Oper} {v : Value} {a : Act} {w : World} (hi : ops[i]? = some o) (hy : YieldsC P ops o v a w) {K : Act → World → Prop}
    (h : ∀ w', Later w w' → K (a.put o.dst v) w') : canOp P ops i K a w := by
  intro w' hw'
  unfold Go.wpOp
  simp only [hi]
  rcases hy with ⟨hw, hv⟩ | ⟨hw, rfl⟩
  · rw [if_pos hw]
    refine .inl ?_
    have h3 := hv w' hw'
    unfold fltAt at h3
    unfold Oper.wp
    generalize (execOp a.eval o).run P w' = r at *
    cases r with
    | ok n w1 =>
      cases n <;> simp only [fltUpon] at h3 <;> simp only [Oper.upon]
      case value u => obtain ⟨rfl, rfl⟩ := h3; exact ⟨Later.refl _, h _ hw'⟩
      case skip => obtain ⟨rfl, rfl⟩ := h3; exact ⟨Later.refl _, h _ hw'⟩
      case enter f args =>
        obtain ⟨rfl, hc⟩ := h3
        exact hc.mono fun e w2 ⟨he, hl⟩ => by subst he; exact ⟨hl, h _ (hw'.trans hl)⟩
    | halt x w1 => simp only [fltUpon] at h3
  · rw [if_neg (by rw [hw]; exact Bool.false_ne_true)]
    exact ⟨Later.refl _, h _ hw'⟩

/-- One operation 'oj', apart from 'oi'. -/
theorem canOp_put {j : Nat} {oi oj : Oper} {v : Value} (hj : ops[j]? = some oj) (hap : oi.apart ops oj = true)
    (hsi : ∀ cs b, oi.op ≠ .select cs b) (hsj : ∀ cs b, oj.op ≠ .select cs b) {K : Act → World → Prop} {a : Act} {w : World}
    (hy : YieldsC P ops oi v a w) (h : canOp P ops j K (a.put oi.dst v) w) :
    canOp P ops j (fun a' w' => YieldsC P ops oi v a' w' ∧ K (a'.put oi.dst v) w') a w := by
  obtain ⟨h1, h2, h3⟩ := Oper.apart_spec hap
  intro w' hw'
  have hy' := hy.later hw'
  have keep : ∀ (a : Act) (w : World), YieldsC P ops oi v a w → ∀ u, YieldsC P ops oi v (a.put oj.dst u) w := fun a w hy u =>
    hy.of_same (execOp_put oi hsi a oj.dst u h3) (wanted_put oi a oj.dst u h3)
  have keepD : ∀ d, YieldsC P ops oi v { a with defers := d :: a.defers } w' := fun d => hy'.of_same rfl rfl
  have h := h w' hw'
  unfold Go.wpOp at *
  simp only [hj] at *
  rw [wanted_put oj a oi.dst v h1] at h
  split
  · rename_i hw
    simp only [hw, if_true] at h
    rcases h with h | ⟨hasks, _, _, hlets⟩
    case inr => exact hlets.elim
    refine .inl ?_
    unfold Oper.wp at *
    rw [execOp_put oj hsj a oi.dst v h1] at h
    generalize (execOp a.eval oj).run P w' = r at *
    cases r with
    | ok n w1 =>
      cases n <;> simp only [Oper.upon] at h ⊢
      case value u => exact ⟨h.1, (keep a _ hy' u).later h.1, by rw [← Act.put_comm a v u h2]; exact h.2⟩
      case skip => exact ⟨h.1, (keep a _ hy' _).later h.1, by rw [← Act.put_comm a v undef h2]; exact h.2⟩
      case defer d =>
        refine ⟨h.1, (keep _ _ (keepD d) _).later h.1, ?_⟩
        rw [← Act.put_comm _ v undef h2, ← Act.put_defers]
        exact h.2
      case enter f args =>
        -- the callee's own start: the world w1 may differ from w'
        refine Calls.mono h fun e w2 he => ?_
        cases e with
        | returned u => exact ⟨he.1, (keep a _ hy' u).later he.1, by rw [← Act.put_comm a v u h2]; exact he.2⟩
        | panicked c => exact he
        | outgrown => exact he
      case row row args => exact Rows.mono h fun u w2 he => ⟨he.1, (keep a _ hy' u).later he.1, by rw [← Act.put_comm a v u h2]; exact he.2⟩
    | halt x w1 =>
      cases x <;> simp only [Oper.upon] at h ⊢
  · rename_i hw
    simp only [hw] at h
    exact ⟨h.1, (keep a _ hy' _).later h.1, by rw [← Act.put_comm a v undef h2]; exact h.2⟩

theorem wpAnyC_first {n i : Nat} {oi : Oper} {v : Value} {L : Array Bool → Act → World → Prop} (hL : LaterClosed L) (hi : ops[i]? = some oi) (hsel : ∀ (j : Nat) (o : Oper) cs b, ops[j]? = some o → o.op ≠ .select cs b)
    (hnt : ∀ listed, HeadInv md ops n listed → listed.getD i true = false → ∀ j ∈ Region.ready md ops listed, j < n)
    (hdone : ∀ listed a w, L listed a w → ∀ j ∈ Region.ready md ops listed, n ≤ j) (hin : i < n) :
    ∀ (f : Nat) (listed : Array Bool) (a : Act) (w : World), HeadInv md ops n listed →
      (∀ j oj, ops[j]? = some oj → j ≠ i → listed.getD j true = false → (∀ e ∈ oj.after, Region.binds md e = true → e.on ≠ i) → oi.apart ops oj = true) →
      i ∈ Region.ready md ops listed → YieldsC P ops oi v a w →
      wpAnyC P md ops n L f (listed.setIfInBounds i true) (a.put oi.dst v) w → wpAnyC P md ops n L (f + 1) listed a w := by
  intro f
  induction f with
  | zero =>
    intro listed a w inv _ hr hy H
    have hun := (mem_ready.1 hr).1
    refine ⟨fun h => (by rw [h] at hr; cases hr), fun j hj => ?_⟩
    have hjn := hnt listed inv hun j hj
    refine ⟨hjn, ?_⟩
    by_cases hji : j = i
    · subst hji; exact hy.canOp hi fun w' hw' => hL _ _ _ _ hw' H
    · have := hdone _ _ _ H j (ready_mono hj hji)
      omega
  | succ f ih =>
    intro listed a w inv hfree hr hy H
    have hun := (mem_ready.1 hr).1
    refine ⟨fun h => (by rw [h] at hr; cases hr), fun j hj => ?_⟩
    have hjn := hnt listed inv hun j hj
    refine ⟨hjn, ?_⟩
    by_cases hji : j = i
    · subst hji; exact hy.canOp hi fun w' hw' => wpAnyC_later hL _ _ _ _ _ hw' H
    · have h1 := (H.2 j (ready_mono hj hji)).2
      obtain ⟨hjun, oj, hoj, hall⟩ := mem_ready.1 hj
      have hnot : ∀ e ∈ oj.after, Region.binds md e = true → e.on ≠ i := fun e he hb heq => by
        have h1 := hall e he hb
        rw [heq, getD_both hun] at h1
        cases h1
      have h2 := canOp_put hoj (hfree j oj hoj hji hjun hnot) (fun cs b => hsel i oi cs b hi) (fun cs b => hsel j oj cs b hoj) hy h1
      have hfree' : ∀ k ok, ops[k]? = some ok → k ≠ i → (listed.setIfInBounds j true).getD k true = false →
          (∀ e ∈ ok.after, Region.binds md e = true → e.on ≠ i) → oi.apart ops ok = true := fun k ok hk hki hun hno => by
        refine hfree k ok hk hki ?_ hno
        by_cases hjk : j = k
        · subst hjk; exact hjun
        · rw [getD_set_ne true hjk] at hun; exact hun
      refine canOp_mono (fun a' w' h3 => ih (listed.setIfInBounds j true) a' w' (inv.set hj hjn) hfree' (ready_mono hr (Ne.symm hji)) h3.1 ?_) h2
      rw [Array.setIfInBounds_comm _ _ hji]
      exact h3.2

/-- The check of an order: each operation may come up; a 'true' one is apart from all that are left and do not wait for it; a 'false' one is the only one that may come up. -/
def planB (md : Region.Mode) (ops : Array Oper) (n : Nat) : List (Bool × Nat) → Array Bool → Bool
  | [], listed => Region.seqB md ops (ops.size - n) n listed
  | (true, i) :: rest, listed => decide (i < n) && (Region.ready md ops listed).contains i && Region.free md ops listed i && planB md ops n rest (listed.setIfInBounds i true)
  | (false, i) :: rest, listed => decide (i < n) && decide (Region.ready md ops listed = [i]) && planB md ops n rest (listed.setIfInBounds i true)

def canB (md : Region.Mode) (ops : Array Oper) (n : Nat) (plan : List (Bool × Nat)) : Bool :=
  Region.noSelect ops && (decide (n = ops.size) || (decide (n < ops.size) && Region.sinkB md ops n && Region.chainB md ops n)) && decide (plan.length = n) && planB md ops n plan (Array.replicate ops.size false)

theorem ready_lt {listed : Array Bool} : ∀ j ∈ Region.ready md ops listed, j < ops.size := fun j hj => by
  obtain ⟨_, o, ho, _⟩ := mem_ready.1 hj
  exact (Array.getElem?_eq_some_iff.1 ho).1

theorem wpAnyC_plan {n : Nat} {Q : Act → World → Prop} (hQ : ∀ a w w', Later w w' → Q a w → Q a w') (hsel : Region.noSelect ops = true)
    (hnt : ∀ i, i < n → ∀ listed, HeadInv md ops n listed → listed.getD i true = false → ∀ j ∈ Region.ready md ops listed, j < n) :
    ∀ (plan : List (Bool × Nat)) (listed : Array Bool) (a : Act) (w : World), HeadInv md ops n listed → planB md ops n plan listed = true → wpCan P ops Q plan a w →
      wpAnyC P md ops n (fun listed' a' w' => Region.seqB md ops (ops.size - n) n listed' = true ∧ Q a' w') plan.length listed a w
  | [], listed, a, w, _, hB, h => ⟨by simpa [planB] using hB, h⟩
  | (true, i) :: rest, listed, a, w, inv, hB, h => by
    simp only [planB, Bool.and_eq_true, decide_eq_true_eq] at hB
    obtain ⟨⟨⟨hin, hr⟩, hf⟩, hB'⟩ := hB
    have hr' : i ∈ Region.ready md ops listed := by simpa using hr
    unfold wpCan at h
    cases ho : ops[i]? with
    | none => simp only [ho] at h
    | some o =>
      simp only [ho] at h
      obtain ⟨v, hy, hK⟩ : ∃ v, YieldsC P ops o v a w ∧ wpCan P ops Q rest (a.put o.dst v) w := by
        by_cases hw : Region.wanted o (yielded ops a.tmps) = true
        · rw [if_pos hw] at h
          obtain ⟨v, h1, h2⟩ := h
          exact ⟨v, .inl ⟨hw, h1⟩, h2⟩
        · rw [if_neg hw] at h
          exact ⟨undef, .inr ⟨by simpa using hw, rfl⟩, h⟩
      exact wpAnyC_first (fun _ _ _ _ hw hq => ⟨hq.1, hQ _ _ _ hw hq.2⟩) ho (Region.noSelect_spec hsel) (hnt i hin) (fun _ _ _ hL => seqB_ready hL.1) hin rest.length listed a w inv (Region.free_spec ho hf) hr' hy
        (wpAnyC_plan hQ hsel hnt rest _ _ _ (inv.set hr' hin) hB' hK)
  | (false, i) :: rest, listed, a, w, inv, hB, h => by
    simp only [planB, Bool.and_eq_true, decide_eq_true_eq] at hB
    obtain ⟨⟨hin, hr⟩, hB'⟩ := hB
    have hr' : i ∈ Region.ready md ops listed := by rw [hr]; simp
    unfold wpCan at h
    cases ho : ops[i]? with
    | none => simp only [ho] at h
    | some o =>
      simp only [ho] at h
      refine ⟨by rw [hr]; simp, fun j hj => ?_⟩
      rw [hr] at hj
      have hji : j = i := by simpa using hj
      subst hji
      refine ⟨hin, fun w' hw' => ?_⟩
      unfold wpOp
      simp only [ho]
      by_cases hw : Region.wanted o (yielded ops a.tmps) = true
      · rw [if_pos hw] at h ⊢
        exact .inl (Oper.wp_mono (fun a' w2 hk => ⟨hk.1, wpAnyC_plan hQ hsel hnt rest _ _ _ (inv.set hr' hin) hB' hk.2⟩) (h w' hw'))
      · rw [if_neg hw] at h ⊢
        exact ⟨Later.refl _, wpAnyC_later (fun _ _ _ _ hw hq => ⟨hq.1, hQ _ _ _ hw hq.2⟩) _ _ _ _ _ hw' (wpAnyC_plan hQ hsel hnt rest _ _ _ (inv.set hr' hin) hB' h)⟩

/-- A REGION THAT DRAWS ITS ORDER, WALKED IN ONE ORDER: 'plan' lists its first operations (those before n), the rest comes up one behind the other. -/
theorem wp_region_can {id : Nat} {Q : Exit → Act → World → Prop} {a : Act} {w : World} {l : List Oper} (n : Nat) (plan : List (Bool × Nat)) (hm : P.follows .mixedOrders = true) (hB : canB .any l.toArray n plan = true)
    (h : wpCan P l.toArray (fun a' w' => ∀ w'', Later w' w'' → wpList P l.toArray Q (l.drop n) a' w'') plan a w) : (Code.region id l.toArray true).wp P Q a w := by
  simp only [canB, Bool.and_eq_true, decide_eq_true_eq] at hB
  obtain ⟨⟨⟨hsel, hn⟩, hlen⟩, hpl⟩ := hB
  have hnle : n ≤ l.toArray.size := by
    rcases Bool.or_eq_true _ _ ▸ hn with hn | hn
    · simp only [decide_eq_true_eq] at hn; omega
    · simp only [Bool.and_eq_true, decide_eq_true_eq] at hn; omega
  have hnt : ∀ i, i < n → ∀ listed, HeadInv .any l.toArray n listed → listed.getD i true = false → ∀ j ∈ Region.ready .any l.toArray listed, j < n := by
    intro i hin listed inv hun j hj
    rcases Bool.or_eq_true _ _ ▸ hn with hn | hn
    · simp only [decide_eq_true_eq] at hn
      have := ready_lt j hj
      omega
    · simp only [Bool.and_eq_true, decide_eq_true_eq] at hn
      obtain ⟨⟨hn, hs⟩, hc⟩ := hn
      rcases Nat.lt_or_ge j n with h | h
      · exact h
      · exact absurd hj (tail_waits hs hc hn inv _ i rfl hin hun j h)
  have inv0 : HeadInv .any l.toArray n (Array.replicate l.toArray.size false) :=
    ⟨by simp, fun j oj _ hl => (by rw [getD_replicate_false] at hl; cases hl), fun t _ ht => getD_in (by simpa using ht) (getD_replicate_false _ _)⟩
  have H := wpAnyC_plan (P := P) (md := .any) (Q := fun a' w' => ∀ w'', Later w' w'' → wpList P l.toArray Q (l.drop n) a' w'') (fun a w w' hw hq w'' hw'' => hq w'' (hw.trans hw'')) hsel hnt plan _ a w inv0 hpl h
  refine wp_region_any hm ?_
  have hdl : (l.drop n).length = l.toArray.size - n := by simp
  have := wpAny_of_can (Q' := Q) (g := l.toArray.size - n) (fun listed a' w' hL => by
    have := wpAny_of_seq (md := .any) (Q' := Q) (l.drop n) n listed a' w' (fun j => by simp [List.getElem?_drop]) (by rw [hdl]; exact hL.1) (hL.2 w' (Later.refl _))
    rwa [hdl] at this) _ _ _ _ (wpAnyC_later (fun _ _ _ _ hw hq => ⟨hq.1, fun w2 h2 => hq.2 w2 (hw.trans h2)⟩) _ _ _ _ _ (Later.drew w) H)
  rw [hlen, show n + (l.toArray.size - n) = l.toArray.size by omega] at this
  exact this
end
end Go.PK
