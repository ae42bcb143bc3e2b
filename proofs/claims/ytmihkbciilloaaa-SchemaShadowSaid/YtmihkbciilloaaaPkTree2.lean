/- Of the proofs of Ytmihkbciilloaaa; see NOTES.md. -/
import Derived.Test.YtmihkbciilloaaaPkTree
/-! As PkTree, but what a region has made may turn again within it: all is said of the world at the region's start. -/
namespace Go.PK
open Go Go.RowKit
set_option linter.unusedVariables false
section
variable {P : Program} {ops : Array Oper} {md : Region.Mode} {w0 : World}
def canOp0 (P : Program) (ops : Array Oper) (w0 : World) (i : Nat) (K : Act → World → Prop) (a : Act) (w : World) : Prop :=
  ∀ w', Later w w' → Later w0 w' → wpOp P ops (fun _ _ _ => False) i (fun a'' w'' => Later w0 w'' ∧ K a'' w'') a w'
theorem canOp0_mono {i : Nat} {a : Act} {w : World} {K K' : Act → World → Prop} (h : ∀ a w, K a w → K' a w) (hh : canOp0 P ops w0 i K a w) : canOp0 P ops w0 i K' a w :=
  fun w' hw h0 => wpOp_mono (fun _ _ hk => ⟨hk.1, h _ _ hk.2⟩) (hh w' hw h0)
theorem canOp0_later {i : Nat} {a : Act} {w w1 : World} {K : Act → World → Prop} (hw : Later w w1) (hh : canOp0 P ops w0 i K a w) : canOp0 P ops w0 i K a w1 :=
  fun w' hw' h0 => hh w' (hw.trans hw') h0
def wpAny0 (P : Program) (md : Region.Mode) (ops : Array Oper) (w0 : World) (n : Nat) (L : Array Bool → Act → World → Prop) : Nat → Array Bool → Act → World → Prop
  | 0, listed, a, w => L listed a w
  | f + 1, listed, a, w => Region.ready md ops listed ≠ [] ∧ ∀ i ∈ Region.ready md ops listed, i < n ∧ canOp0 P ops w0 i (wpAny0 P md ops w0 n L f (listed.setIfInBounds i true)) a w
theorem wpAny0_later {n : Nat} {L : Array Bool → Act → World → Prop} (hL : LaterClosed L) : ∀ (f : Nat) (listed : Array Bool) (a : Act) (w w' : World), Later w w' →
    wpAny0 P md ops w0 n L f listed a w → wpAny0 P md ops w0 n L f listed a w'
  | 0, _, _, _, _, h, hh => hL _ _ _ _ h hh
  | _ + 1, _, _, _, _, h, hh => ⟨hh.1, fun i hi => ⟨(hh.2 i hi).1, canOp0_later h (hh.2 i hi).2⟩⟩
theorem wpAny_of_can0 {n g : Nat} {L : Array Bool → Act → World → Prop} {Q' : Exit → Act → World → Prop} (hL : ∀ listed a w, Later w0 w → L listed a w → wpAny P md ops Q' g listed a w) :
    ∀ (f : Nat) (listed : Array Bool) (a : Act) (w : World), Later w0 w → wpAny0 P md ops w0 n L f listed a w → wpAny P md ops Q' (f + g) listed a w
  | 0, listed, a, w, h0, h => by rw [Nat.zero_add]; exact hL _ _ _ h0 h
  | f + 1, listed, a, w, h0, h => by
    rw [show f + 1 + g = (f + g) + 1 by omega]
    refine ⟨fun he => absurd he h.1, fun i hi => ?_⟩
    have h1 := (h.2 i hi).2 w (Later.refl w) h0
    have h2 : wpOp P ops (fun _ _ _ => False) i (wpAny P md ops Q' (f + g) (listed.setIfInBounds i true)) a w :=
      wpOp_mono (fun a' w' h' => wpAny_of_can0 hL f _ a' w' h'.1 h'.2) h1
    unfold wpOp at h2 ⊢
    split
    · rename_i ho; simp only [ho] at h2; exact h2
    · rename_i o ho
      simp only [ho] at h2
      split
      · rename_i hw
        simp only [hw, if_true] at h2
        rcases h2 with h2 | ⟨_, _, _, h2⟩
        · refine .inl ?_
          unfold Oper.wp at h2 ⊢
          generalize (execOp a.eval o).run P w = r at *
          cases r with
          | ok x w' =>
            cases x <;> simp only [Oper.upon] at h2 ⊢ <;> first
              | exact h2
              | (refine Calls.mono h2 fun e w'' he => ?_
                 cases e with
                 | returned u => exact he
                 | panicked c => exact he.elim
                 | outgrown => obtain ⟨_, _, hf⟩ := he; exact hf.elim)
          | halt x w' => cases x <;> simp only [Oper.upon] at h2 ⊢
        · exact h2.elim
      · rename_i hw
        simp only [hw] at h2
        exact h2
def Yields0 (P : Program) (ops : Array Oper) (w0 : World) (o : Oper) (v : Value) (a : Act) : Prop :=
  (Region.wanted o (yielded ops a.tmps) = true ∧ ∀ w', Later w0 w' → fltAt P o a w' v) ∨ (Region.wanted o (yielded ops a.tmps) = false ∧ v = undef)
theorem Yields0.of_same {o : Oper} {v : Value} {a a' : Act} (hy : Yields0 P ops w0 o v a) (he : execOp a'.eval o = execOp a.eval o)
    (hw : Region.wanted o (yielded ops a'.tmps) = Region.wanted o (yielded ops a.tmps)) : Yields0 P ops w0 o v a' := by
  unfold Yields0 fltAt at *
  rw [he, hw]
  exact hy
theorem Yields0.canOp {i : Nat} {o : Oper} {v : Value} {a : Act} {w : World} (hi : ops[i]? = some o) (hy : Yields0 P ops w0 o v a) {K : Act → World → Prop}
    (h : ∀ w', Later w w' → K (a.put o.dst v) w') : canOp0 P ops w0 i K a w := by
  intro w' hw' h0
  unfold Go.wpOp
  simp only [hi]
  rcases hy with ⟨hw, hv⟩ | ⟨hw, rfl⟩
  · rw [if_pos hw]
    refine .inl ?_
    have h3 := hv w' h0
    unfold fltAt at h3
    unfold Oper.wp
    generalize (execOp a.eval o).run P w' = r at *
    cases r with
    | ok n w1 =>
      cases n <;> simp only [fltUpon] at h3 <;> simp only [Oper.upon]
      case value u => obtain ⟨rfl, rfl⟩ := h3; exact ⟨h0, h _ hw'⟩
      case skip => obtain ⟨rfl, rfl⟩ := h3; exact ⟨h0, h _ hw'⟩
      case enter f args =>
        obtain ⟨rfl, hc⟩ := h3
        exact hc.mono fun e w2 ⟨he, hl⟩ => by subst he; exact ⟨h0.trans hl, h _ (hw'.trans hl)⟩
    | halt x w1 => simp only [fltUpon] at h3
  · rw [if_neg (by rw [hw]; exact Bool.false_ne_true)]
    exact ⟨h0, h _ hw'⟩
theorem canOp_put0 {j : Nat} {oi oj : Oper} {v : Value} (hj : ops[j]? = some oj) (hap : oi.apart ops oj = true)
    (hsi : ∀ cs b, oi.op ≠ .select cs b) (hsj : ∀ cs b, oj.op ≠ .select cs b) {K : Act → World → Prop} {a : Act} {w : World}
    (hy : Yields0 P ops w0 oi v a) (h : canOp0 P ops w0 j K (a.put oi.dst v) w) :
    canOp0 P ops w0 j (fun a' w' => Yields0 P ops w0 oi v a' ∧ K (a'.put oi.dst v) w') a w := by
  obtain ⟨h1, h2, h3⟩ := Oper.apart_spec hap
  intro w' hw' h0
  have keep : ∀ (a : Act), Yields0 P ops w0 oi v a → ∀ u, Yields0 P ops w0 oi v (a.put oj.dst u) := fun a hy u =>
    hy.of_same (execOp_put oi hsi a oj.dst u h3) (wanted_put oi a oj.dst u h3)
  have keepD : ∀ d, Yields0 P ops w0 oi v { a with defers := d :: a.defers } := fun d => hy.of_same rfl rfl
  have h := h w' hw' h0
  unfold Go.wpOp at *
  simp only [hj] at *
  rw [wanted_put oj a oi.dst v h1] at h
  split
  · rename_i hw
    simp only [hw, if_true] at h
    rcases h with h | ⟨hasks, _, _, hlets⟩
    case inr => exact hlets.elim
    refine .inl ?_
    unfold Oper.wp at *
    rw [execOp_put oj hsj a oi.dst v h1] at h
    generalize (execOp a.eval oj).run P w' = r at *
    cases r with
    | ok n w1 =>
      cases n <;> simp only [Oper.upon] at h ⊢
      case value u => exact ⟨h.1, keep a hy u, by rw [← Act.put_comm a v u h2]; exact h.2⟩
      case skip => exact ⟨h.1, keep a hy _, by rw [← Act.put_comm a v undef h2]; exact h.2⟩
      case defer d =>
        refine ⟨h.1, keep _ (keepD d) _, ?_⟩
        rw [← Act.put_comm _ v undef h2, ← Act.put_defers]
        exact h.2
      case enter f args =>
        refine Calls.mono h fun e w2 he => ?_
        cases e with
        | returned u => exact ⟨he.1, keep a hy u, by rw [← Act.put_comm a v u h2]; exact he.2⟩
        | panicked c => exact he
        | outgrown => exact he
      case row row args => exact Rows.mono h fun u w2 he => ⟨he.1, keep a hy u, by rw [← Act.put_comm a v u h2]; exact he.2⟩
    | halt x w1 =>
      cases x <;> simp only [Oper.upon] at h ⊢
  · rename_i hw
    simp only [hw] at h
    exact ⟨h.1, keep a hy _, by rw [← Act.put_comm a v undef h2]; exact h.2⟩
theorem wpAny0_first {n i : Nat} {oi : Oper} {v : Value} {L : Array Bool → Act → World → Prop} (hL : LaterClosed L) (hi : ops[i]? = some oi) (hsel : ∀ (j : Nat) (o : Oper) cs b, ops[j]? = some o → o.op ≠ .select cs b)
    (hnt : ∀ listed, HeadInv md ops n listed → listed.getD i true = false → ∀ j ∈ Region.ready md ops listed, j < n)
    (hdone : ∀ listed a w, L listed a w → ∀ j ∈ Region.ready md ops listed, n ≤ j) (hin : i < n) :
    ∀ (f : Nat) (listed : Array Bool) (a : Act) (w : World), HeadInv md ops n listed →
      (∀ j oj, ops[j]? = some oj → j ≠ i → listed.getD j true = false → (∀ e ∈ oj.after, Region.binds md e = true → e.on ≠ i) → oi.apart ops oj = true) →
      i ∈ Region.ready md ops listed → Yields0 P ops w0 oi v a →
      wpAny0 P md ops w0 n L f (listed.setIfInBounds i true) (a.put oi.dst v) w → wpAny0 P md ops w0 n L (f + 1) listed a w := by
  intro f
  induction f with
  | zero =>
    intro listed a w inv _ hr hy H
    have hun := (mem_ready.1 hr).1
    refine ⟨fun h => (by rw [h] at hr; cases hr), fun j hj => ?_⟩
    have hjn := hnt listed inv hun j hj
    refine ⟨hjn, ?_⟩
    by_cases hji : j = i
    · subst hji; exact hy.canOp hi fun w' hw' => hL _ _ _ _ hw' H
    · have := hdone _ _ _ H j (ready_mono hj hji)
      omega
  | succ f ih =>
    intro listed a w inv hfree hr hy H
    have hun := (mem_ready.1 hr).1
    refine ⟨fun h => (by rw [h] at hr; cases hr), fun j hj => ?_⟩
    have hjn := hnt listed inv hun j hj
    refine ⟨hjn, ?_⟩
    by_cases hji : j = i
    · subst hji; exact hy.canOp hi fun w' hw' => wpAny0_later hL _ _ _ _ _ hw' H
    · have h1 := (H.2 j (ready_mono hj hji)).2
      obtain ⟨hjun, oj, hoj, hall⟩ := mem_ready.1 hj
      have hnot : ∀ e ∈ oj.after, Region.binds md e = true → e.on ≠ i := fun e he hb heq => by
        have h1 := hall e he hb
        rw [heq, getD_both hun] at h1
        cases h1
      have h2 := canOp_put0 hoj (hfree j oj hoj hji hjun hnot) (fun cs b => hsel i oi cs b hi) (fun cs b => hsel j oj cs b hoj) hy h1
      have hfree' : ∀ k ok, ops[k]? = some ok → k ≠ i → (listed.setIfInBounds j true).getD k true = false →
          (∀ e ∈ ok.after, Region.binds md e = true → e.on ≠ i) → oi.apart ops ok = true := fun k ok hk hki hun hno => by
        refine hfree k ok hk hki ?_ hno
        by_cases hjk : j = k
        · subst hjk; exact hjun
        · rw [getD_set_ne true hjk] at hun; exact hun
      refine canOp0_mono (fun a' w' h3 => ih (listed.setIfInBounds j true) a' w' (inv.set hj hjn) hfree' (ready_mono hr (Ne.symm hji)) h3.1 ?_) h2
      rw [Array.setIfInBounds_comm _ _ hji]
      exact h3.2
def wpB (P : Program) (ops : Array Oper) (w0 : World) (K : Act → World → Prop) : Pl → Act → World → Prop
  | .done, a, w => K a w
  | .flt i t, a, w => match ops[i]? with
    | none => False
    | some o => if Region.wanted o (yielded ops a.tmps) then ∃ v, (∀ w', Later w0 w' → fltAt P o a w' v) ∧ wpB P ops w0 K t (a.put o.dst v) w else wpB P ops w0 K t (a.put o.dst undef) w
  | .gr i t e, a, w => (match ops[i]? with
    | none => False
    | some o => if Region.wanted o (yielded ops a.tmps) then ∀ w', Later w w' → o.wp P a w' (fun a'' w'' => Later w0 w'' ∧ wpB P ops w0 K t a'' w'') (fun _ _ _ => False) else wpB P ops w0 K t (a.put o.dst undef) w) ∧ wpB P ops w0 K e a w
  | .nil, _, _ => True
theorem wpAny0_tree {n : Nat} {Q : Act → World → Prop} (hQ : ∀ a w w', Later w w' → Q a w → Q a w') (hsel : Region.noSelect ops = true)
    (hnt : ∀ i, i < n → ∀ listed, HeadInv md ops n listed → listed.getD i true = false → ∀ j ∈ Region.ready md ops listed, j < n) :
    ∀ (t : Pl) (f : Nat) (listed : Array Bool) (a : Act) (w : World), HeadInv md ops n listed →
      (treeB md ops n false f t listed = true → wpB P ops w0 Q t a w → wpAny0 P md ops w0 n (fun listed' a' w' => Region.seqB md ops (ops.size - n) n listed' = true ∧ Q a' w') f listed a w) ∧
      (treeB md ops n true f t listed = true → wpB P ops w0 Q t a w → ∀ j ∈ t.heads, j ∈ Region.ready md ops listed → 0 < f ∧ j < n ∧ canOp0 P ops w0 j (wpAny0 P md ops w0 n (fun listed' a' w' => Region.seqB md ops (ops.size - n) n listed' = true ∧ Q a' w') (f - 1) (listed.setIfInBounds j true)) a w)
  | .done, f, listed, a, w, _ => ⟨fun hB h => by
      simp only [treeB, Bool.and_eq_true, decide_eq_true_eq] at hB
      obtain ⟨⟨_, rfl⟩, hB⟩ := hB
      exact ⟨hB, h⟩, fun hB => by simp [treeB] at hB⟩
  | .flt i t, f, listed, a, w, inv => ⟨fun hB h => by
      simp only [treeB, Bool.and_eq_true, decide_eq_true_eq] at hB
      obtain ⟨⟨⟨⟨⟨_, hf⟩, hin⟩, hr⟩, hfr⟩, hB'⟩ := hB
      obtain ⟨g, rfl⟩ : ∃ g, f = g + 1 := ⟨f - 1, by omega⟩
      have hr' : i ∈ Region.ready md ops listed := by simpa using hr
      unfold wpB at h
      cases ho : ops[i]? with
      | none => simp only [ho] at h
      | some o =>
        simp only [ho] at h
        obtain ⟨v, hy, hK⟩ : ∃ v, Yields0 P ops w0 o v a ∧ wpB P ops w0 Q t (a.put o.dst v) w := by
          by_cases hw : Region.wanted o (yielded ops a.tmps) = true
          · rw [if_pos hw] at h
            obtain ⟨v, h1, h2⟩ := h
            exact ⟨v, .inl ⟨hw, h1⟩, h2⟩
          · rw [if_neg hw] at h
            exact ⟨undef, .inr ⟨by simpa using hw, rfl⟩, h⟩
        exact wpAny0_first (fun _ _ _ _ hw hq => ⟨hq.1, hQ _ _ _ hw hq.2⟩) ho (Region.noSelect_spec hsel) (hnt i hin) (fun _ _ _ hL => seqB_ready hL.1) hin g listed a w inv (Region.free_spec ho hfr) hr' hy
          ((wpAny0_tree hQ hsel hnt t g _ _ _ (inv.set hr' hin)).1 (by simpa using hB') hK), fun hB => by simp [treeB] at hB⟩
  | .gr i t e, f, listed, a, w, inv => by
      have alt : ∀ alt, treeB md ops n alt f (.gr i t e) listed = true → wpB P ops w0 Q (.gr i t e) a w → ∀ j ∈ (Pl.gr i t e).heads, j ∈ Region.ready md ops listed → 0 < f ∧ j < n ∧ canOp0 P ops w0 j (wpAny0 P md ops w0 n (fun listed' a' w' => Region.seqB md ops (ops.size - n) n listed' = true ∧ Q a' w') (f - 1) (listed.setIfInBounds j true)) a w := by
        intro alt hB h j hj hjr
        simp only [treeB, Bool.and_eq_true, decide_eq_true_eq] at hB
        obtain ⟨⟨⟨⟨_, hf⟩, hin⟩, hB1⟩, hB2⟩ := hB
        unfold wpB at h
        obtain ⟨h1, h2⟩ := h
        simp only [Pl.heads, List.mem_cons] at hj
        by_cases hji : j = i
        · subst hji
          refine ⟨hf, hin, fun w' hw' h0 => ?_⟩
          cases ho : ops[j]? with
          | none => simp only [ho] at h1
          | some o =>
            simp only [ho] at h1
            unfold wpOp
            simp only [ho]
            by_cases hw : Region.wanted o (yielded ops a.tmps) = true
            · rw [if_pos hw] at h1 ⊢
              exact .inl (Oper.wp_mono (fun a' w2 hk => ⟨hk.1, (wpAny0_tree hQ hsel hnt t _ _ _ _ (inv.set hjr hin)).1 hB1 hk.2⟩) (h1 w' hw'))
            · rw [if_neg hw] at h1 ⊢
              exact ⟨h0, wpAny0_later (fun _ _ _ _ hw hq => ⟨hq.1, hQ _ _ _ hw hq.2⟩) _ _ _ _ _ hw' ((wpAny0_tree hQ hsel hnt t _ _ _ _ (inv.set hjr hin)).1 hB1 h1)⟩
        · have hj' : j ∈ e.heads := by rcases hj with h | h; exact absurd h hji; exact h
          exact (wpAny0_tree hQ hsel hnt e f listed a w inv).2 hB2 h2 j hj' hjr
      refine ⟨fun hB h => ?_, alt true⟩
      have hB0 := hB
      simp only [treeB, Bool.and_eq_true, decide_eq_true_eq, Bool.false_or] at hB
      obtain ⟨⟨⟨⟨⟨hall, hne⟩, hf⟩, _⟩, _⟩, _⟩ := hB
      obtain ⟨g, rfl⟩ : ∃ g, f = g + 1 := ⟨f - 1, by omega⟩
      refine ⟨fun h0 => by rw [h0] at hne; simp at hne, fun j hj => ?_⟩
      have hjh : j ∈ (Pl.gr i t e).heads := by simpa using List.all_eq_true.1 hall j hj
      exact (alt false hB0 h j hjh hj).2
  | .nil, f, listed, a, w, _ => ⟨fun hB => by simp [treeB] at hB, fun _ _ j hj => by simp [Pl.heads] at hj⟩
theorem wp_region_base {id : Nat} {Q : Exit → Act → World → Prop} {a : Act} {w : World} {l : List Oper} (n : Nat) (t : Pl) (hm : P.follows .mixedOrders = true)
    (hB : (Region.noSelect l.toArray && (decide (n = l.toArray.size) || (decide (n < l.toArray.size) && Region.sinkB .any l.toArray n && Region.chainB .any l.toArray n)) && treeB .any l.toArray n false n t (Array.replicate l.toArray.size false)) = true)
    (h : wpB P l.toArray w (fun a' w' => ∀ w'', Later w' w'' → wpList P l.toArray Q (l.drop n) a' w'') t a w) : (Code.region id l.toArray true).wp P Q a w := by
  simp only [Bool.and_eq_true] at hB
  obtain ⟨⟨hsel, hn⟩, hpl⟩ := hB
  have hnle : n ≤ l.toArray.size := by
    rcases Bool.or_eq_true _ _ ▸ hn with hn | hn
    · simp only [decide_eq_true_eq] at hn; omega
    · simp only [Bool.and_eq_true, decide_eq_true_eq] at hn; omega
  have hnt : ∀ i, i < n → ∀ listed, HeadInv .any l.toArray n listed → listed.getD i true = false → ∀ j ∈ Region.ready .any l.toArray listed, j < n := by
    intro i hin listed inv hun j hj
    rcases Bool.or_eq_true _ _ ▸ hn with hn | hn
    · simp only [decide_eq_true_eq] at hn
      have := ready_lt j hj
      omega
    · simp only [Bool.and_eq_true, decide_eq_true_eq] at hn
      obtain ⟨⟨hn, hs⟩, hc⟩ := hn
      rcases Nat.lt_or_ge j n with h | h
      · exact h
      · exact absurd hj (tail_waits hs hc hn inv _ i rfl hin hun j h)
  have inv0 : HeadInv .any l.toArray n (Array.replicate l.toArray.size false) :=
    ⟨by simp, fun j oj _ hl => (by rw [getD_replicate_false] at hl; cases hl), fun t _ ht => getD_in (by simpa using ht) (getD_replicate_false _ _)⟩
  have H := (wpAny0_tree (P := P) (md := .any) (w0 := w) (Q := fun a' w' => ∀ w'', Later w' w'' → wpList P l.toArray Q (l.drop n) a' w'') (fun a w w' hw hq w'' hw'' => hq w'' (hw.trans hw'')) hsel hnt t n _ a w inv0).1 hpl h
  refine wp_region_any hm ?_
  have hdl : (l.drop n).length = l.toArray.size - n := by simp
  have := wpAny_of_can0 (Q' := Q) (g := l.toArray.size - n) (w0 := w) (fun listed a' w' _ hL => by
    have := wpAny_of_seq (md := .any) (Q' := Q) (l.drop n) n listed a' w' (fun j => by simp [List.getElem?_drop]) (by rw [hdl]; exact hL.1) (hL.2 w' (Later.refl _))
    rwa [hdl] at this) _ _ _ _ (Later.drew w) (wpAny0_later (fun _ _ _ _ hw hq => ⟨hq.1, fun w2 h2 => hq.2 w2 (hw.trans h2)⟩) _ _ _ _ _ (Later.drew w) H)
  rw [show n + (l.toArray.size - n) = l.toArray.size by omega] at this
  exact this
end
section
variable {P : Program} {n : Nat} {l : List (Nat × Value)} {own : List (Nat × Obj)} {ro : List Snap}
theorem Mem.frozen {w : World} (h : Mem w own ro) : Mem w [] ((w, fun _ => True) :: ro) where
  own_at := fun p hp => by cases hp
  own_nd := by simp
  ro_st := fun s hs => by
    rcases List.mem_cons.1 hs with rfl | hs
    · exact ⟨rfl, rfl, rfl, Nat.le_refl _⟩
    · exact h.ro_st s hs
  ro_at := fun s hs k hk hlt => by
    rcases List.mem_cons.1 hs with rfl | hs
    · rfl
    · exact h.ro_at s hs k hk hlt
  apart := fun p hp => by cases hp
theorem rg_base {id : Nat} {Q : Exit → Act → World → Prop} {lops : List Oper} (m : Nat) (t : Pl) (hm : P.follows .mixedOrders = true)
    (hB : (Region.noSelect lops.toArray && (decide (m = lops.toArray.size) || (decide (m < lops.toArray.size) && Region.sinkB .any lops.toArray m && Region.chainB .any lops.toArray m)) && treeB .any lops.toArray m false m t (Array.replicate lops.toArray.size false)) = true)
    (h : ∀ w0, Mem w0 own ro → Mem w0 [] ((w0, fun _ => True) :: ro) → S (wpB P lops.toArray w0 (fun a' w' => ∀ w'', Later w' w'' → wpList P lops.toArray Q (lops.drop m) a' w'') t) n l [] ((w0, fun _ => True) :: ro)) : W P (.region id lops.toArray true) Q n l own ro :=
  fun a w ha hw => wp_region_base m t hm hB (h w hw hw.frozen a w ha hw.frozen)
variable {ops : Array Oper} {Q : Exit → Act → World → Prop} {K : Act → World → Prop} {i : Nat} {t e : Pl} {w0 : World}
theorem b_flt (hm0 : Mem w0 own ro) (hs : (w0, fun _ => True) ∈ ro) (h : WX P ops Q (wpB P ops w0 K t) [(some true, i)] n l own ro) : S (wpB P ops w0 K (.flt i t)) n l own ro := fun a w ha hw => by
  have h := h a w0 ha hm0
  have hl := hw.base hs
  unfold wpB
  simp only [wpX] at h
  split <;> rename_i ho <;> simp only [ho] at h
  split <;> rename_i hw'
  · rw [if_pos hw'] at h
    obtain ⟨v, h1, h2⟩ := h
    exact ⟨v, h1, h2 w hl⟩
  · rw [if_neg hw'] at h
    exact h w hl
theorem b_gr (h : WX P ops (fun _ _ _ => False) (fun a w => Later w0 w ∧ wpB P ops w0 K t a w) [(none, i)] n l own ro) (he : S (wpB P ops w0 K e) n l own ro) : S (wpB P ops w0 K (.gr i t e)) n l own ro := fun a w ha hw => by
  have h := h a w ha hw
  unfold wpB
  refine ⟨?_, he a w ha hw⟩
  simp only [wpX] at h
  split <;> rename_i ho <;> simp only [ho] at h
  split <;> rename_i hw'
  · intro w2 h2
    have h := h w2 h2
    rw [if_pos hw'] at h
    exact Oper.wp_mono (fun a' w' hk => hk w' (Later.refl _)) h
  · have h := h w (Later.refl _)
    rw [if_neg hw'] at h
    exact (h w (Later.refl _)).2
theorem b_end (hs : (w0, fun _ => True) ∈ ro) (h : S (wpB P ops w0 K t) n l own ro) : S (fun a w => Later w0 w ∧ wpB P ops w0 K t a w) n l own ro := fun a w ha hw => ⟨hw.base hs, h a w ha hw⟩
theorem b_nil : S (wpB P ops w0 K .nil) n l own ro := fun _ _ _ _ => trivial
theorem b_done {lops : List Oper} {m : Nat} (h : WX P lops.toArray Q (fun a w => Q .normal a w) (tailFrom m lops.length) n l own ro) :
    S (wpB P lops.toArray w0 (fun a' w' => ∀ w'', Later w' w'' → wpList P lops.toArray Q (lops.drop m) a' w'') .done) n l own ro :=
  fun a w ha hw w2 h2 => wpList_of_X _ m a w2 rfl (wpX_later h2 (h a w ha hw))
end
end Go.PK
