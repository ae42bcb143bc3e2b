/- Of the proofs of Ytmihkbciilloaaa; see NOTES.md. -/
import Derived.Test.YtmihkbciilloaaaPkEng
/-! A region that draws its order, where several operations that make memory may come up: the orders are a tree. -/
namespace Go.PK
open Go Go.RowKit
set_option linter.unusedVariables false
inductive Pl where
  | done
  | flt (i : Nat) (t : Pl)
  | gr (i : Nat) (t e : Pl)
  | nil
def Pl.heads : Pl → List Nat
  | .gr i _ e => i :: e.heads
  | _ => []
section
variable {P : Program} {ops : Array Oper} {md : Region.Mode}
def wpT (P : Program) (ops : Array Oper) (K : Act → World → Prop) : Pl → Act → World → Prop
  | .done, a, w => K a w
  | .flt i t, a, w => match ops[i]? with
    | none => False
    | some o => if Region.wanted o (yielded ops a.tmps) then flt P o a w (fun a' => wpT P ops K t a' w) else wpT P ops K t (a.put o.dst undef) w
  | .gr i t e, a, w => (match ops[i]? with
    | none => False
    | some o => if Region.wanted o (yielded ops a.tmps) then grw P o a w (wpT P ops K t) else wpT P ops K t (a.put o.dst undef) w) ∧ wpT P ops K e a w
  | .nil, _, _ => True
def treeB (md : Region.Mode) (ops : Array Oper) (n : Nat) : Bool → Nat → Pl → Array Bool → Bool
  | alt, f, .done, listed => !alt && decide (f = 0) && Region.seqB md ops (ops.size - n) n listed
  | alt, f, .flt i t, listed => !alt && decide (0 < f) && decide (i < n) && (Region.ready md ops listed).contains i && Region.free md ops listed i && treeB md ops n false (f - 1) t (listed.setIfInBounds i true)
  | alt, f, .gr i t e, listed => (alt || ((Region.ready md ops listed).all (fun j => ((Pl.gr i t e).heads).contains j) && !(Region.ready md ops listed).isEmpty)) && decide (0 < f) && decide (i < n) && treeB md ops n false (f - 1) t (listed.setIfInBounds i true) && treeB md ops n true f e listed
  | alt, _, .nil, _ => alt
theorem wpAnyC_tree {n : Nat} {Q : Act → World → Prop} (hQ : ∀ a w w', Later w w' → Q a w → Q a w') (hsel : Region.noSelect ops = true)
    (hnt : ∀ i, i < n → ∀ listed, HeadInv md ops n listed → listed.getD i true = false → ∀ j ∈ Region.ready md ops listed, j < n) :
    ∀ (t : Pl) (f : Nat) (listed : Array Bool) (a : Act) (w : World), HeadInv md ops n listed →
      (treeB md ops n false f t listed = true → wpT P ops Q t a w → wpAnyC P md ops n (fun listed' a' w' => Region.seqB md ops (ops.size - n) n listed' = true ∧ Q a' w') f listed a w) ∧
      (treeB md ops n true f t listed = true → wpT P ops Q t a w → ∀ j ∈ t.heads, j ∈ Region.ready md ops listed → 0 < f ∧ j < n ∧ canOp P ops j (wpAnyC P md ops n (fun listed' a' w' => Region.seqB md ops (ops.size - n) n listed' = true ∧ Q a' w') (f - 1) (listed.setIfInBounds j true)) a w)
  | .done, f, listed, a, w, _ => ⟨fun hB h => by
      simp only [treeB, Bool.and_eq_true, decide_eq_true_eq] at hB
      obtain ⟨⟨_, rfl⟩, hB⟩ := hB
      exact ⟨hB, h⟩, fun hB => by simp [treeB] at hB⟩
  | .flt i t, f, listed, a, w, inv => ⟨fun hB h => by
      simp only [treeB, Bool.and_eq_true, decide_eq_true_eq] at hB
      obtain ⟨⟨⟨⟨⟨_, hf⟩, hin⟩, hr⟩, hfr⟩, hB'⟩ := hB
      obtain ⟨g, rfl⟩ : ∃ g, f = g + 1 := ⟨f - 1, by omega⟩
      have hr' : i ∈ Region.ready md ops listed := by simpa using hr
      unfold wpT at h
      cases ho : ops[i]? with
      | none => simp only [ho] at h
      | some o =>
        simp only [ho] at h
        obtain ⟨v, hy, hK⟩ : ∃ v, YieldsC P ops o v a w ∧ wpT P ops Q t (a.put o.dst v) w := by
          by_cases hw : Region.wanted o (yielded ops a.tmps) = true
          · rw [if_pos hw] at h
            obtain ⟨v, h1, h2⟩ := h
            exact ⟨v, .inl ⟨hw, h1⟩, h2⟩
          · rw [if_neg hw] at h
            exact ⟨undef, .inr ⟨by simpa using hw, rfl⟩, h⟩
        exact wpAnyC_first (fun _ _ _ _ hw hq => ⟨hq.1, hQ _ _ _ hw hq.2⟩) ho (Region.noSelect_spec hsel) (hnt i hin) (fun _ _ _ hL => seqB_ready hL.1) hin g listed a w inv (Region.free_spec ho hfr) hr' hy
          ((wpAnyC_tree hQ hsel hnt t g _ _ _ (inv.set hr' hin)).1 (by simpa using hB') hK), fun hB => by simp [treeB] at hB⟩
  | .gr i t e, f, listed, a, w, inv => by
      have alt : ∀ alt, treeB md ops n alt f (.gr i t e) listed = true → wpT P ops Q (.gr i t e) a w → ∀ j ∈ (Pl.gr i t e).heads, j ∈ Region.ready md ops listed → 0 < f ∧ j < n ∧ canOp P ops j (wpAnyC P md ops n (fun listed' a' w' => Region.seqB md ops (ops.size - n) n listed' = true ∧ Q a' w') (f - 1) (listed.setIfInBounds j true)) a w := by
        intro alt hB h j hj hjr
        simp only [treeB, Bool.and_eq_true, decide_eq_true_eq] at hB
        obtain ⟨⟨⟨⟨_, hf⟩, hin⟩, hB1⟩, hB2⟩ := hB
        unfold wpT at h
        obtain ⟨h1, h2⟩ := h
        simp only [Pl.heads, List.mem_cons] at hj
        by_cases hji : j = i
        · subst hji
          refine ⟨hf, hin, fun w' hw' => ?_⟩
          cases ho : ops[j]? with
          | none => simp only [ho] at h1
          | some o =>
            simp only [ho] at h1
            unfold wpOp
            simp only [ho]
            by_cases hw : Region.wanted o (yielded ops a.tmps) = true
            · rw [if_pos hw] at h1 ⊢
              exact .inl (Oper.wp_mono (fun a' w2 hk => ⟨hk.1, (wpAnyC_tree hQ hsel hnt t _ _ _ _ (inv.set hjr hin)).1 hB1 hk.2⟩) (h1 w' hw'))
            · rw [if_neg hw] at h1 ⊢
              exact ⟨Later.refl _, wpAnyC_later (fun _ _ _ _ hw hq => ⟨hq.1, hQ _ _ _ hw hq.2⟩) _ _ _ _ _ hw' ((wpAnyC_tree hQ hsel hnt t _ _ _ _ (inv.set hjr hin)).1 hB1 h1)⟩
        · have hj' : j ∈ e.heads := by rcases hj with h | h; exact absurd h hji; exact h
          exact (wpAnyC_tree hQ hsel hnt e f listed a w inv).2 hB2 h2 j hj' hjr
      refine ⟨fun hB h => ?_, alt true⟩
      have hB0 := hB
      simp only [treeB, Bool.and_eq_true, decide_eq_true_eq, Bool.false_or] at hB
      obtain ⟨⟨⟨⟨⟨hall, hne⟩, hf⟩, _⟩, _⟩, _⟩ := hB
      obtain ⟨g, rfl⟩ : ∃ g, f = g + 1 := ⟨f - 1, by omega⟩
      refine ⟨fun h0 => by rw [h0] at hne; simp at hne, fun j hj => ?_⟩
      have hjh : j ∈ (Pl.gr i t e).heads := by simpa using List.all_eq_true.1 hall j hj
      exact (alt false hB0 h j hjh hj).2
  | .nil, f, listed, a, w, _ => ⟨fun hB => by simp [treeB] at hB, fun _ _ j hj => by simp [Pl.heads] at hj⟩
theorem wp_region_tree {id : Nat} {Q : Exit → Act → World → Prop} {a : Act} {w : World} {l : List Oper} (n : Nat) (t : Pl) (hm : P.follows .mixedOrders = true)
    (hB : (Region.noSelect l.toArray && (decide (n = l.toArray.size) || (decide (n < l.toArray.size) && Region.sinkB .any l.toArray n && Region.chainB .any l.toArray n)) && treeB .any l.toArray n false n t (Array.replicate l.toArray.size false)) = true)
    (h : wpT P l.toArray (fun a' w' => ∀ w'', Later w' w'' → wpList P l.toArray Q (l.drop n) a' w'') t a w) : (Code.region id l.toArray true).wp P Q a w := by
  simp only [Bool.and_eq_true] at hB
  obtain ⟨⟨hsel, hn⟩, hpl⟩ := hB
  have hnle : n ≤ l.toArray.size := by
    rcases Bool.or_eq_true _ _ ▸ hn with hn | hn
    · simp only [decide_eq_true_eq] at hn; omega
    · simp only [Bool.and_eq_true, decide_eq_true_eq] at hn; omega
  have hnt : ∀ i, i < n → ∀ listed, HeadInv .any l.toArray n listed → listed.getD i true = false → ∀ j ∈ Region.ready .any l.toArray listed, j < n := by
    intro i hin listed inv hun j hj
    rcases Bool.or_eq_true _ _ ▸ hn with hn | hn
    · simp only [decide_eq_true_eq] at hn
      have := ready_lt j hj
      omega
    · simp only [Bool.and_eq_true, decide_eq_true_eq] at hn
      obtain ⟨⟨hn, hs⟩, hc⟩ := hn
      rcases Nat.lt_or_ge j n with h | h
      · exact h
      · exact absurd hj (tail_waits hs hc hn inv _ i rfl hin hun j h)
  have inv0 : HeadInv .any l.toArray n (Array.replicate l.toArray.size false) :=
    ⟨by simp, fun j oj _ hl => (by rw [getD_replicate_false] at hl; cases hl), fun t _ ht => getD_in (by simpa using ht) (getD_replicate_false _ _)⟩
  have H := (wpAnyC_tree (P := P) (md := .any) (Q := fun a' w' => ∀ w'', Later w' w'' → wpList P l.toArray Q (l.drop n) a' w'') (fun a w w' hw hq w'' hw'' => hq w'' (hw.trans hw'')) hsel hnt t n _ a w inv0).1 hpl h
  refine wp_region_any hm ?_
  have hdl : (l.drop n).length = l.toArray.size - n := by simp
  have := wpAny_of_can (Q' := Q) (g := l.toArray.size - n) (fun listed a' w' hL => by
    have := wpAny_of_seq (md := .any) (Q' := Q) (l.drop n) n listed a' w' (fun j => by simp [List.getElem?_drop]) (by rw [hdl]; exact hL.1) (hL.2 w' (Later.refl _))
    rwa [hdl] at this) _ _ _ _ (wpAnyC_later (fun _ _ _ _ hw hq => ⟨hq.1, fun w2 h2 => hq.2 w2 (hw.trans h2)⟩) _ _ _ _ _ (Later.drew w) H)
  rw [show n + (l.toArray.size - n) = l.toArray.size by omega] at this
  exact this
end
section
variable {P : Program} {n : Nat} {l : List (Nat × Value)} {own : List (Nat × Obj)} {ro : List Snap}
theorem rg_tree {id : Nat} {Q : Exit → Act → World → Prop} {lops : List Oper} (m : Nat) (t : Pl) (hm : P.follows .mixedOrders = true)
    (hB : (Region.noSelect lops.toArray && (decide (m = lops.toArray.size) || (decide (m < lops.toArray.size) && Region.sinkB .any lops.toArray m && Region.chainB .any lops.toArray m)) && treeB .any lops.toArray m false m t (Array.replicate lops.toArray.size false)) = true)
    (h : S (wpT P lops.toArray (fun a' w' => ∀ w'', Later w' w'' → wpList P lops.toArray Q (lops.drop m) a' w'') t) n l own ro) : W P (.region id lops.toArray true) Q n l own ro :=
  fun a w ha hw => wp_region_tree m t hm hB (h a w ha hw)
variable {ops : Array Oper} {Q : Exit → Act → World → Prop} {K : Act → World → Prop} {i : Nat} {t e : Pl}
theorem t_flt (h : WX P ops Q (wpT P ops K t) [(some true, i)] n l own ro) : S (wpT P ops K (.flt i t)) n l own ro := fun a w ha hw => by
  have h := h a w ha hw
  unfold wpT
  simp only [wpX] at h
  split <;> rename_i ho <;> simp only [ho] at h
  split <;> rename_i hw'
  · rw [if_pos hw'] at h
    obtain ⟨v, h1, h2⟩ := h
    exact ⟨v, h1, h2 w (Later.refl _)⟩
  · rw [if_neg hw'] at h
    exact h w (Later.refl _)
theorem t_gr (h : WX P ops Q (wpT P ops K t) [(some false, i)] n l own ro) (he : S (wpT P ops K e) n l own ro) : S (wpT P ops K (.gr i t e)) n l own ro := fun a w ha hw => by
  have h := h a w ha hw
  unfold wpT
  refine ⟨?_, he a w ha hw⟩
  simp only [wpX] at h
  split <;> rename_i ho <;> simp only [ho] at h
  split <;> rename_i hw'
  · rw [if_pos hw'] at h
    exact fun w2 h2 => Oper.wp_mono (fun a' w' hk => ⟨hk.1, hk.2 w' (Later.refl _)⟩) (h w2 h2)
  · rw [if_neg hw'] at h
    exact h w (Later.refl _)
theorem t_nil : S (wpT P ops K .nil) n l own ro := fun _ _ _ _ => trivial
theorem t_done {lops : List Oper} {m : Nat} (h : WX P lops.toArray Q (fun a w => Q .normal a w) (tailFrom m lops.length) n l own ro) :
    S (wpT P lops.toArray (fun a' w' => ∀ w'', Later w' w'' → wpList P lops.toArray Q (lops.drop m) a' w'') .done) n l own ro :=
  fun a w ha hw w2 h2 => wpList_of_X _ m a w2 rfl (wpX_later h2 (h a w ha hw))
end
end Go.PK
