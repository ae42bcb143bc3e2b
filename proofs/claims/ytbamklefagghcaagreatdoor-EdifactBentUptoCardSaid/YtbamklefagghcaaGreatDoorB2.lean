/- Of the proofs of YtbamklefagghcaaGreatDoor: PkTree PkTree2 PkTree3 PkEdi4 PkStr PkEdi5 PkOrd PkEdi7 PkOps7 PkEdi8 PkNum PkInv PkOps8 PkText PkInv2 PkEq PkPay PkPayT PkPayR PkPayS PkPayL PkBent PkFull PkFull2 PkBent2 PkTop PkBulk PkOrdT, put together. -/
import Derived.Test.YtbamklefagghcaaGreatDoorB1
import Derived.Lib.AppendStr
import Derived.Laws.BytesArg
import Derived.Lib.ItoaLen
import Derived.Lib.SplitLaws
import Derived.Sort.Grow
import Derived.Laws.Runes
import Derived.Lib.AtoiAll
import Derived.Lib.ItoaNum
import Derived.Lib.IndexBytes
import Derived.Lib.IndexMore
import Derived.Laws.ResultCell
import Derived.Laws.StructEq
import Derived.ChangeKeysEq
import Derived.ArgAppend
/- Of the proofs of YtbamklefagghcaaGreatDoor; see NOTES.md. -/
/-! A region that draws its order, where several operations that make memory may come up: the orders are a tree. -/
namespace Go.PK
open Go Go.RowKit
set_option linter.unusedVariables false
inductive Pl where
  | done
  | flt (i : Nat) (t : Pl)
  | gr (i : Nat) (t e : Pl)
  | nil
def Pl.heads : Pl → List Nat
  | .gr i _ e => i :: e.heads
  | _ => []
section
variable {P : Program} {ops : Array Oper} {md : Region.Mode}
def wpT (P : Program) (ops : Array Oper) (K : Act → World → Prop) : Pl → Act → World → Prop
  | .done, a, w => K a w
  | .flt i t, a, w => match ops[i]? with
    | none => False
    | some o => if Region.wanted o (yielded ops a.tmps) then flt P o a w (fun a' => wpT P ops K t a' w) else wpT P ops K t (a.put o.dst undef) w
  | .gr i t e, a, w => (match ops[i]? with
    | none => False
    | some o => if Region.wanted o (yielded ops a.tmps) then grw P o a w (wpT P ops K t) else wpT P ops K t (a.put o.dst undef) w) ∧ wpT P ops K e a w
  | .nil, _, _ => True
def treeB (md : Region.Mode) (ops : Array Oper) (n : Nat) : Bool → Nat → Pl → Array Bool → Bool
  | alt, f, .done, listed => !alt && decide (f = 0) && Region.seqB md ops (ops.size - n) n listed
  | alt, f, .flt i t, listed => !alt && decide (0 < f) && decide (i < n) && (Region.ready md ops listed).contains i && Region.free md ops listed i && treeB md ops n false (f - 1) t (listed.setIfInBounds i true)
  | alt, f, .gr i t e, listed => (alt || ((Region.ready md ops listed).all (fun j => ((Pl.gr i t e).heads).contains j) && !(Region.ready md ops listed).isEmpty)) && decide (0 < f) && decide (i < n) && treeB md ops n false (f - 1) t (listed.setIfInBounds i true) && treeB md ops n true f e listed
  | alt, _, .nil, _ => alt
theorem wpAnyC_tree {n : Nat} {Q : Act → World → Prop} (hQ : ∀ a w w', Later w w' → Q a w → Q a w') (hsel : Region.noSelect ops = true)
    (hnt : ∀ i, i < n → ∀ listed, HeadInv md ops n listed → listed.getD i true = false → ∀ j ∈ Region.ready md ops listed, j < n) :
    ∀ (t : Pl) (f : Nat) (listed : Array Bool) (a : Act) (w : World), HeadInv md ops n listed →
      (treeB md ops n false f t listed = true → wpT P ops Q t a w → wpAnyC P md ops n (fun listed' a' w' => Region.seqB md ops (ops.size - n) n listed' = true ∧ Q a' w') f listed a w) ∧
      (treeB md ops n true f t listed = true → wpT P ops Q t a w → ∀ j ∈ t.heads, j ∈ Region.ready md ops listed → 0 < f ∧ j < n ∧ canOp P ops j (wpAnyC P md ops n (fun listed' a' w' => Region.seqB md ops (ops.size - n) n listed' = true ∧ Q a' w') (f - 1) (listed.setIfInBounds j true)) a w)
  | .done, f, listed, a, w, _ => ⟨fun hB h => by
      simp only [treeB, Bool.and_eq_true, decide_eq_true_eq] at hB
      obtain ⟨⟨_, rfl⟩, hB⟩ := hB
      exact ⟨hB, h⟩, fun hB => by simp [treeB] at hB⟩
  | .flt i t, f, listed, a, w, inv => ⟨fun hB h => by
      simp only [treeB, Bool.and_eq_true, decide_eq_true_eq] at hB
      obtain ⟨⟨⟨⟨⟨_, hf⟩, hin⟩, hr⟩, hfr⟩, hB'⟩ := hB
      obtain ⟨g, rfl⟩ : ∃ g, f = g + 1 := ⟨f - 1, by omega⟩
      have hr' : i ∈ Region.ready md ops listed := by simpa using hr
      unfold wpT at h
      cases ho : ops[i]? with
      | none => simp only [ho] at h
      | some o =>
        simp only [ho] at h
        obtain ⟨v, hy, hK⟩ : ∃ v, YieldsC P ops o v a w ∧ wpT P ops Q t (a.put o.dst v) w := by
          by_cases hw : Region.wanted o (yielded ops a.tmps) = true
          · rw [if_pos hw] at h
            obtain ⟨v, h1, h2⟩ := h
            exact ⟨v, .inl ⟨hw, h1⟩, h2⟩
          · rw [if_neg hw] at h
            exact ⟨undef, .inr ⟨by simpa using hw, rfl⟩, h⟩
        exact wpAnyC_first (fun _ _ _ _ hw hq => ⟨hq.1, hQ _ _ _ hw hq.2⟩) ho (Region.noSelect_spec hsel) (hnt i hin) (fun _ _ _ hL => seqB_ready hL.1) hin g listed a w inv (Region.free_spec ho hfr) hr' hy
          ((wpAnyC_tree hQ hsel hnt t g _ _ _ (inv.set hr' hin)).1 (by simpa using hB') hK), fun hB => by simp [treeB] at hB⟩
  | .gr i t e, f, listed, a, w, inv => by
      have alt : ∀ alt, treeB md ops n alt f (.gr i t e) listed = true → wpT P ops Q (.gr i t e) a w → ∀ j ∈ (Pl.gr i t e).heads, j ∈ Region.ready md ops listed → 0 < f ∧ j < n ∧ canOp P ops j (wpAnyC P md ops n (fun listed' a' w' => Region.seqB md ops (ops.size - n) n listed' = true ∧ Q a' w') (f - 1) (listed.setIfInBounds j true)) a w := by
        intro alt hB h j hj hjr
        simp only [treeB, Bool.and_eq_true, decide_eq_true_eq] at hB
        obtain ⟨⟨⟨⟨_, hf⟩, hin⟩, hB1⟩, hB2⟩ := hB
        unfold wpT at h
        obtain ⟨h1, h2⟩ := h
        simp only [Pl.heads, List.mem_cons] at hj
        by_cases hji : j = i
        · subst hji
          refine ⟨hf, hin, fun w' hw' => ?_⟩
          cases ho : ops[j]? with
          | none => simp only [ho] at h1
          | some o =>
            simp only [ho] at h1
            unfold wpOp
            simp only [ho]
            by_cases hw : Region.wanted o (yielded ops a.tmps) = true
            · rw [if_pos hw] at h1 ⊢
              exact .inl (Oper.wp_mono (fun a' w2 hk => ⟨hk.1, (wpAnyC_tree hQ hsel hnt t _ _ _ _ (inv.set hjr hin)).1 hB1 hk.2⟩) (h1 w' hw'))
            · rw [if_neg hw] at h1 ⊢
              exact ⟨Later.refl _, wpAnyC_later (fun _ _ _ _ hw hq => ⟨hq.1, hQ _ _ _ hw hq.2⟩) _ _ _ _ _ hw' ((wpAnyC_tree hQ hsel hnt t _ _ _ _ (inv.set hjr hin)).1 hB1 h1)⟩
        · have hj' : j ∈ e.heads := by rcases hj with h | h; exact absurd h hji; exact h
          exact (wpAnyC_tree hQ hsel hnt e f listed a w inv).2 hB2 h2 j hj' hjr
      refine ⟨fun hB h => ?_, alt true⟩
      have hB0 := hB
      simp only [treeB, Bool.and_eq_true, decide_eq_true_eq, Bool.false_or] at hB
      obtain ⟨⟨⟨⟨⟨hall, hne⟩, hf⟩, _⟩, _⟩, _⟩ := hB
      obtain ⟨g, rfl⟩ : ∃ g, f = g + 1 := ⟨f - 1, by omega⟩
      refine ⟨fun h0 => by rw [h0] at hne; simp at hne, fun j hj => ?_⟩
      have hjh : j ∈ (Pl.gr i t e).heads := by simpa using List.all_eq_true.1 hall j hj
      exact (alt false hB0 h j hjh hj).2
  | .nil, f, listed, a, w, _ => ⟨fun hB => by simp [treeB] at hB, fun _ _ j hj => by simp [Pl.heads] at hj⟩
theorem wp_region_tree {id : Nat} {Q : Exit → Act → World → Prop} {a : Act} {w : World} {l : List Oper} (n : Nat) (t : Pl) (hm : P.follows .mixedOrders = true)
    (hB : (Region.noSelect l.toArray && (decide (n = l.toArray.size) || (decide (n < l.toArray.size) && Region.sinkB .any l.toArray n && Region.chainB .any l.toArray n)) && treeB .any l.toArray n false n t (Array.replicate l.toArray.size false)) = true)
    (h : wpT P l.toArray (fun a' w' => ∀ w'', Later w' w'' → wpList P l.toArray Q (l.drop n) a' w'') t a w) : (Code.region id l.toArray true).wp P Q a w := by
  simp only [Bool.and_eq_true] at hB
  obtain ⟨⟨hsel, hn⟩, hpl⟩ := hB
  have hnle : n ≤ l.toArray.size := by
    rcases Bool.or_eq_true _ _ ▸ hn with hn | hn
    · simp only [decide_eq_true_eq] at hn; omega
    · simp only [Bool.and_eq_true, decide_eq_true_eq] at hn; omega
  have hnt : ∀ i, i < n → ∀ listed, HeadInv .any l.toArray n listed → listed.getD i true = false → ∀ j ∈ Region.ready .any l.toArray listed, j < n := by
    intro i hin listed inv hun j hj
    rcases Bool.or_eq_true _ _ ▸ hn with hn | hn
    · simp only [decide_eq_true_eq] at hn
      have := ready_lt j hj
      omega
    · simp only [Bool.and_eq_true, decide_eq_true_eq] at hn
      obtain ⟨⟨hn, hs⟩, hc⟩ := hn
      rcases Nat.lt_or_ge j n with h | h
      · exact h
      · exact absurd hj (tail_waits hs hc hn inv _ i rfl hin hun j h)
  have inv0 : HeadInv .any l.toArray n (Array.replicate l.toArray.size false) :=
    ⟨by simp, fun j oj _ hl => (by rw [getD_replicate_false] at hl; cases hl), fun t _ ht => getD_in (by simpa using ht) (getD_replicate_false _ _)⟩
  have H := (wpAnyC_tree (P := P) (md := .any) (Q := fun a' w' => ∀ w'', Later w' w'' → wpList P l.toArray Q (l.drop n) a' w'') (fun a w w' hw hq w'' hw'' => hq w'' (hw.trans hw'')) hsel hnt t n _ a w inv0).1 hpl h
  refine wp_region_any hm ?_
  have hdl : (l.drop n).length = l.toArray.size - n := by simp
  have := wpAny_of_can (Q' := Q) (g := l.toArray.size - n) (fun listed a' w' hL => by
    have := wpAny_of_seq (md := .any) (Q' := Q) (l.drop n) n listed a' w' (fun j => by simp [List.getElem?_drop]) (by rw [hdl]; exact hL.1) (hL.2 w' (Later.refl _))
    rwa [hdl] at this) _ _ _ _ (wpAnyC_later (fun _ _ _ _ hw hq => ⟨hq.1, fun w2 h2 => hq.2 w2 (hw.trans h2)⟩) _ _ _ _ _ (Later.drew w) H)
  rw [show n + (l.toArray.size - n) = l.toArray.size by omega] at this
  exact this
end
section
variable {P : Program} {n : Nat} {l : List (Nat × Value)} {own : List (Nat × Obj)} {ro : List Snap}
theorem rg_tree {id : Nat} {Q : Exit → Act → World → Prop} {lops : List Oper} (m : Nat) (t : Pl) (hm : P.follows .mixedOrders = true)
    (hB : (Region.noSelect lops.toArray && (decide (m = lops.toArray.size) || (decide (m < lops.toArray.size) && Region.sinkB .any lops.toArray m && Region.chainB .any lops.toArray m)) && treeB .any lops.toArray m false m t (Array.replicate lops.toArray.size false)) = true)
    (h : S (wpT P lops.toArray (fun a' w' => ∀ w'', Later w' w'' → wpList P lops.toArray Q (lops.drop m) a' w'') t) n l own ro) : W P (.region id lops.toArray true) Q n l own ro :=
  fun a w ha hw => wp_region_tree m t hm hB (h a w ha hw)
variable {ops : Array Oper} {Q : Exit → Act → World → Prop} {K : Act → World → Prop} {i : Nat} {t e : Pl}
theorem t_flt (h : WX P ops Q (wpT P ops K t) [(some true, i)] n l own ro) : S (wpT P ops K (.flt i t)) n l own ro := fun a w ha hw => by
  have h := h a w ha hw
  unfold wpT
  simp only [wpX] at h
  split <;> rename_i ho <;> simp only [ho] at h
  split <;> rename_i hw'
  · rw [if_pos hw'] at h
    obtain ⟨v, h1, h2⟩ := h
    exact ⟨v, h1, h2 w (Later.refl _)⟩
  · rw [if_neg hw'] at h
    exact h w (Later.refl _)
theorem t_gr (h : WX P ops Q (wpT P ops K t) [(some false, i)] n l own ro) (he : S (wpT P ops K e) n l own ro) : S (wpT P ops K (.gr i t e)) n l own ro := fun a w ha hw => by
  have h := h a w ha hw
  unfold wpT
  refine ⟨?_, he a w ha hw⟩
  simp only [wpX] at h
  split <;> rename_i ho <;> simp only [ho] at h
  split <;> rename_i hw'
  · rw [if_pos hw'] at h
    exact fun w2 h2 => Oper.wp_mono (fun a' w' hk => ⟨hk.1, hk.2 w' (Later.refl _)⟩) (h w2 h2)
  · rw [if_neg hw'] at h
    exact h w (Later.refl _)
theorem t_nil : S (wpT P ops K .nil) n l own ro := fun _ _ _ _ => trivial
theorem t_done {lops : List Oper} {m : Nat} (h : WX P lops.toArray Q (fun a w => Q .normal a w) (tailFrom m lops.length) n l own ro) :
    S (wpT P lops.toArray (fun a' w' => ∀ w'', Later w' w'' → wpList P lops.toArray Q (lops.drop m) a' w'') .done) n l own ro :=
  fun a w ha hw w2 h2 => wpList_of_X _ m a w2 rfl (wpX_later h2 (h a w ha hw))
end
end Go.PK

/- Of the proofs of YtbamklefagghcaaGreatDoor; see NOTES.md. -/
/-! As PkTree, but what a region has made may turn again within it: all is said of the world at the region's start. -/
namespace Go.PK
open Go Go.RowKit
set_option linter.unusedVariables false
section
variable {P : Program} {ops : Array Oper} {md : Region.Mode} {w0 : World}
def canOp0 (P : Program) (ops : Array Oper) (w0 : World) (i : Nat) (K : Act → World → Prop) (a : Act) (w : World) : Prop :=
  ∀ w', Later w w' → Later w0 w' → wpOp P ops (fun _ _ _ => False) i (fun a'' w'' => Later w0 w'' ∧ K a'' w'') a w'
def wpAny0 (P : Program) (md : Region.Mode) (ops : Array Oper) (w0 : World) (n : Nat) (L : Array Bool → Act → World → Prop) : Nat → Array Bool → Act → World → Prop
  | 0, listed, a, w => L listed a w
  | f + 1, listed, a, w => Region.ready md ops listed ≠ [] ∧ ∀ i ∈ Region.ready md ops listed, i < n ∧ canOp0 P ops w0 i (wpAny0 P md ops w0 n L f (listed.setIfInBounds i true)) a w
def Yields0 (P : Program) (ops : Array Oper) (w0 : World) (o : Oper) (v : Value) (a : Act) : Prop :=
  (Region.wanted o (yielded ops a.tmps) = true ∧ ∀ w', Later w0 w' → fltAt P o a w' v) ∨ (Region.wanted o (yielded ops a.tmps) = false ∧ v = undef)
theorem Yields0.of_same {o : Oper} {v : Value} {a a' : Act} (hy : Yields0 P ops w0 o v a) (he : execOp a'.eval o = execOp a.eval o)
    (hw : Region.wanted o (yielded ops a'.tmps) = Region.wanted o (yielded ops a.tmps)) : Yields0 P ops w0 o v a' := by
  unfold Yields0 fltAt at *
  rw [he, hw]
  exact hy
theorem Yields0.canOp {i : Nat} {o : Oper} {v : Value} {a : Act} {w : World} (hi : ops[i]? = some o) (hy : Yields0 P ops w0 o v a) {K : Act → World → Prop}
    (h : ∀ w', Later w w' → K (a.put o.dst v) w') : canOp0 P ops w0 i K a w := by
  intro w' hw' h0
  unfold Go.wpOp
  simp only [hi]
  rcases hy with ⟨hw, hv⟩ | ⟨hw, rfl⟩
  · rw [if_pos hw]
    refine .inl ?_
    have h3 := hv w' h0
    unfold fltAt at h3
    unfold Oper.wp
    generalize (execOp a.eval o).run P w' = r at *
    cases r with
    | ok n w1 =>
      cases n <;> simp only [fltUpon] at h3 <;> simp only [Oper.upon]
      case value u => obtain ⟨rfl, rfl⟩ := h3; exact ⟨h0, h _ hw'⟩
      case skip => obtain ⟨rfl, rfl⟩ := h3; exact ⟨h0, h _ hw'⟩
      case enter f args =>
        obtain ⟨rfl, hc⟩ := h3
        exact hc.mono fun e w2 ⟨he, hl⟩ => by subst he; exact ⟨h0.trans hl, h _ (hw'.trans hl)⟩
    | halt x w1 => simp only [fltUpon] at h3
  · rw [if_neg (by rw [hw]; exact Bool.false_ne_true)]
    exact ⟨h0, h _ hw'⟩
def wpB (P : Program) (ops : Array Oper) (w0 : World) (K : Act → World → Prop) : Pl → Act → World → Prop
  | .done, a, w => K a w
  | .flt i t, a, w => match ops[i]? with
    | none => False
    | some o => if Region.wanted o (yielded ops a.tmps) then ∃ v, (∀ w', Later w0 w' → fltAt P o a w' v) ∧ wpB P ops w0 K t (a.put o.dst v) w else wpB P ops w0 K t (a.put o.dst undef) w
  | .gr i t e, a, w => (match ops[i]? with
    | none => False
    | some o => if Region.wanted o (yielded ops a.tmps) then ∀ w', Later w w' → o.wp P a w' (fun a'' w'' => Later w0 w'' ∧ wpB P ops w0 K t a'' w'') (fun _ _ _ => False) else wpB P ops w0 K t (a.put o.dst undef) w) ∧ wpB P ops w0 K e a w
  | .nil, _, _ => True
end
section
variable {P : Program} {n : Nat} {l : List (Nat × Value)} {own : List (Nat × Obj)} {ro : List Snap}
theorem Mem.frozen {w : World} (h : Mem w own ro) : Mem w [] ((w, fun _ => True) :: ro) where
  own_at := fun p hp => by cases hp
  own_nd := by simp
  ro_st := fun s hs => by
    rcases List.mem_cons.1 hs with rfl | hs
    · exact ⟨rfl, rfl, rfl, Nat.le_refl _⟩
    · exact h.ro_st s hs
  ro_at := fun s hs k hk hlt => by
    rcases List.mem_cons.1 hs with rfl | hs
    · rfl
    · exact h.ro_at s hs k hk hlt
  apart := fun p hp => by cases hp
variable {ops : Array Oper} {Q : Exit → Act → World → Prop} {K : Act → World → Prop} {i : Nat} {t e : Pl} {w0 : World}
end
end Go.PK

/- Of the proofs of YtbamklefagghcaaGreatDoor; see NOTES.md. -/
/-! As PkTree2, over worlds that keep an invariant: blocks that the region turns are left out of it. -/
namespace Go.PK
open Go Go.RowKit
set_option linter.unusedVariables false
section
variable {P : Program} {ops : Array Oper} {md : Region.Mode} {oF : List (Nat × Obj)} {rF : List Snap}
def canOpJ (P : Program) (ops : Array Oper) (oF : List (Nat × Obj)) (rF : List Snap) (i : Nat) (K : Act → World → Prop) (a : Act) (w : World) : Prop :=
  ∀ w', Later w w' → Mem w' oF rF → wpOp P ops (fun _ _ _ => False) i (fun a'' w'' => Mem w'' oF rF ∧ K a'' w'') a w'
theorem canOpJ_mono {i : Nat} {a : Act} {w : World} {K K' : Act → World → Prop} (h : ∀ a w, K a w → K' a w) (hh : canOpJ P ops oF rF i K a w) : canOpJ P ops oF rF i K' a w :=
  fun w' hw h0 => wpOp_mono (fun _ _ hk => ⟨hk.1, h _ _ hk.2⟩) (hh w' hw h0)
theorem canOpJ_later {i : Nat} {a : Act} {w w1 : World} {K : Act → World → Prop} (hw : Later w w1) (hh : canOpJ P ops oF rF i K a w) : canOpJ P ops oF rF i K a w1 :=
  fun w' hw' h0 => hh w' (hw.trans hw') h0
def wpAnyJ (P : Program) (md : Region.Mode) (ops : Array Oper) (oF : List (Nat × Obj)) (rF : List Snap) (n : Nat) (L : Array Bool → Act → World → Prop) : Nat → Array Bool → Act → World → Prop
  | 0, listed, a, w => L listed a w
  | f + 1, listed, a, w => Region.ready md ops listed ≠ [] ∧ ∀ i ∈ Region.ready md ops listed, i < n ∧ canOpJ P ops oF rF i (wpAnyJ P md ops oF rF n L f (listed.setIfInBounds i true)) a w
theorem wpAnyJ_later {n : Nat} {L : Array Bool → Act → World → Prop} (hL : LaterClosed L) : ∀ (f : Nat) (listed : Array Bool) (a : Act) (w w' : World), Later w w' →
    wpAnyJ P md ops oF rF n L f listed a w → wpAnyJ P md ops oF rF n L f listed a w'
  | 0, _, _, _, _, h, hh => hL _ _ _ _ h hh
  | _ + 1, _, _, _, _, h, hh => ⟨hh.1, fun i hi => ⟨(hh.2 i hi).1, canOpJ_later h (hh.2 i hi).2⟩⟩
theorem wpAny_of_canJ {n g : Nat} {L : Array Bool → Act → World → Prop} {Q' : Exit → Act → World → Prop} (hL : ∀ listed a w, Mem w oF rF → L listed a w → wpAny P md ops Q' g listed a w) :
    ∀ (f : Nat) (listed : Array Bool) (a : Act) (w : World), Mem w oF rF → wpAnyJ P md ops oF rF n L f listed a w → wpAny P md ops Q' (f + g) listed a w
  | 0, listed, a, w, h0, h => by rw [Nat.zero_add]; exact hL _ _ _ h0 h
  | f + 1, listed, a, w, h0, h => by
    rw [show f + 1 + g = (f + g) + 1 by omega]
    refine ⟨fun he => absurd he h.1, fun i hi => ?_⟩
    have h1 := (h.2 i hi).2 w (Later.refl w) h0
    have h2 : wpOp P ops (fun _ _ _ => False) i (wpAny P md ops Q' (f + g) (listed.setIfInBounds i true)) a w :=
      wpOp_mono (fun a' w' h' => wpAny_of_canJ hL f _ a' w' h'.1 h'.2) h1
    unfold wpOp at h2 ⊢
    split
    · rename_i ho; simp only [ho] at h2; exact h2
    · rename_i o ho
      simp only [ho] at h2
      split
      · rename_i hw
        simp only [hw, if_true] at h2
        rcases h2 with h2 | ⟨_, _, _, h2⟩
        · refine .inl ?_
          unfold Oper.wp at h2 ⊢
          generalize (execOp a.eval o).run P w = r at *
          cases r with
          | ok x w' =>
            cases x <;> simp only [Oper.upon] at h2 ⊢ <;> first
              | exact h2
              | (refine Calls.mono h2 fun e w'' he => ?_
                 cases e with
                 | returned u => exact he
                 | panicked c => exact he.elim
                 | outgrown => obtain ⟨_, _, hf⟩ := he; exact hf.elim)
          | halt x w' => cases x <;> simp only [Oper.upon] at h2 ⊢
        · exact h2.elim
      · rename_i hw
        simp only [hw] at h2
        exact h2
def YieldsJ (P : Program) (ops : Array Oper) (oF : List (Nat × Obj)) (rF : List Snap) (o : Oper) (v : Value) (a : Act) : Prop :=
  (Region.wanted o (yielded ops a.tmps) = true ∧ ∀ w', Mem w' oF rF → fltAt P o a w' v) ∨ (Region.wanted o (yielded ops a.tmps) = false ∧ v = undef)
theorem YieldsJ.of_same {o : Oper} {v : Value} {a a' : Act} (hy : YieldsJ P ops oF rF o v a) (he : execOp a'.eval o = execOp a.eval o)
    (hw : Region.wanted o (yielded ops a'.tmps) = Region.wanted o (yielded ops a.tmps)) : YieldsJ P ops oF rF o v a' := by
  unfold YieldsJ fltAt at *
  rw [he, hw]
  exact hy
theorem YieldsJ.canOp {i : Nat} {o : Oper} {v : Value} {a : Act} {w : World} (hi : ops[i]? = some o) (hy : YieldsJ P ops oF rF o v a) {K : Act → World → Prop}
    (h : ∀ w', Later w w' → K (a.put o.dst v) w') : canOpJ P ops oF rF i K a w := by
  intro w' hw' h0
  unfold Go.wpOp
  simp only [hi]
  rcases hy with ⟨hw, hv⟩ | ⟨hw, rfl⟩
  · rw [if_pos hw]
    refine .inl ?_
    have h3 := hv w' h0
    unfold fltAt at h3
    unfold Oper.wp
    generalize (execOp a.eval o).run P w' = r at *
    cases r with
    | ok n w1 =>
      cases n <;> simp only [fltUpon] at h3 <;> simp only [Oper.upon]
      case value u => obtain ⟨rfl, rfl⟩ := h3; exact ⟨h0, h _ hw'⟩
      case skip => obtain ⟨rfl, rfl⟩ := h3; exact ⟨h0, h _ hw'⟩
      case enter f args =>
        obtain ⟨rfl, hc⟩ := h3
        exact hc.mono fun e w2 ⟨he, hl⟩ => by subst he; exact ⟨Mem.later h0 hl, h _ (hw'.trans hl)⟩
    | halt x w1 => simp only [fltUpon] at h3
  · rw [if_neg (by rw [hw]; exact Bool.false_ne_true)]
    exact ⟨h0, h _ hw'⟩
theorem canOp_putJ {j : Nat} {oi oj : Oper} {v : Value} (hj : ops[j]? = some oj) (hap : oi.apart ops oj = true)
    (hsi : ∀ cs b, oi.op ≠ .select cs b) (hsj : ∀ cs b, oj.op ≠ .select cs b) {K : Act → World → Prop} {a : Act} {w : World}
    (hy : YieldsJ P ops oF rF oi v a) (h : canOpJ P ops oF rF j K (a.put oi.dst v) w) :
    canOpJ P ops oF rF j (fun a' w' => YieldsJ P ops oF rF oi v a' ∧ K (a'.put oi.dst v) w') a w := by
  obtain ⟨h1, h2, h3⟩ := Oper.apart_spec hap
  intro w' hw' h0
  have keep : ∀ (a : Act), YieldsJ P ops oF rF oi v a → ∀ u, YieldsJ P ops oF rF oi v (a.put oj.dst u) := fun a hy u =>
    hy.of_same (execOp_put oi hsi a oj.dst u h3) (wanted_put oi a oj.dst u h3)
  have keepD : ∀ d, YieldsJ P ops oF rF oi v { a with defers := d :: a.defers } := fun d => hy.of_same rfl rfl
  have h := h w' hw' h0
  unfold Go.wpOp at *
  simp only [hj] at *
  rw [wanted_put oj a oi.dst v h1] at h
  split
  · rename_i hw
    simp only [hw, if_true] at h
    rcases h with h | ⟨hasks, _, _, hlets⟩
    case inr => exact hlets.elim
    refine .inl ?_
    unfold Oper.wp at *
    rw [execOp_put oj hsj a oi.dst v h1] at h
    generalize (execOp a.eval oj).run P w' = r at *
    cases r with
    | ok n w1 =>
      cases n <;> simp only [Oper.upon] at h ⊢
      case value u => exact ⟨h.1, keep a hy u, by rw [← Act.put_comm a v u h2]; exact h.2⟩
      case skip => exact ⟨h.1, keep a hy _, by rw [← Act.put_comm a v undef h2]; exact h.2⟩
      case defer d =>
        refine ⟨h.1, keep _ (keepD d) _, ?_⟩
        rw [← Act.put_comm _ v undef h2, ← Act.put_defers]
        exact h.2
      case enter f args =>
        refine Calls.mono h fun e w2 he => ?_
        cases e with
        | returned u => exact ⟨he.1, keep a hy u, by rw [← Act.put_comm a v u h2]; exact he.2⟩
        | panicked c => exact he
        | outgrown => exact he
      case row row args => exact Rows.mono h fun u w2 he => ⟨he.1, keep a hy u, by rw [← Act.put_comm a v u h2]; exact he.2⟩
    | halt x w1 =>
      cases x <;> simp only [Oper.upon] at h ⊢
  · rename_i hw
    simp only [hw] at h
    exact ⟨h.1, keep a hy _, by rw [← Act.put_comm a v undef h2]; exact h.2⟩
theorem wpAnyJ_first {n i : Nat} {oi : Oper} {v : Value} {L : Array Bool → Act → World → Prop} (hL : LaterClosed L) (hi : ops[i]? = some oi) (hsel : ∀ (j : Nat) (o : Oper) cs b, ops[j]? = some o → o.op ≠ .select cs b)
    (hnt : ∀ listed, HeadInv md ops n listed → listed.getD i true = false → ∀ j ∈ Region.ready md ops listed, j < n)
    (hdone : ∀ listed a w, L listed a w → ∀ j ∈ Region.ready md ops listed, n ≤ j) (hin : i < n) :
    ∀ (f : Nat) (listed : Array Bool) (a : Act) (w : World), HeadInv md ops n listed →
      (∀ j oj, ops[j]? = some oj → j ≠ i → listed.getD j true = false → (∀ e ∈ oj.after, Region.binds md e = true → e.on ≠ i) → oi.apart ops oj = true) →
      i ∈ Region.ready md ops listed → YieldsJ P ops oF rF oi v a →
      wpAnyJ P md ops oF rF n L f (listed.setIfInBounds i true) (a.put oi.dst v) w → wpAnyJ P md ops oF rF n L (f + 1) listed a w := by
  intro f
  induction f with
  | zero =>
    intro listed a w inv _ hr hy H
    have hun := (mem_ready.1 hr).1
    refine ⟨fun h => (by rw [h] at hr; cases hr), fun j hj => ?_⟩
    have hjn := hnt listed inv hun j hj
    refine ⟨hjn, ?_⟩
    by_cases hji : j = i
    · subst hji; exact hy.canOp hi fun w' hw' => hL _ _ _ _ hw' H
    · have := hdone _ _ _ H j (ready_mono hj hji)
      omega
  | succ f ih =>
    intro listed a w inv hfree hr hy H
    have hun := (mem_ready.1 hr).1
    refine ⟨fun h => (by rw [h] at hr; cases hr), fun j hj => ?_⟩
    have hjn := hnt listed inv hun j hj
    refine ⟨hjn, ?_⟩
    by_cases hji : j = i
    · subst hji; exact hy.canOp hi fun w' hw' => wpAnyJ_later hL _ _ _ _ _ hw' H
    · have h1 := (H.2 j (ready_mono hj hji)).2
      obtain ⟨hjun, oj, hoj, hall⟩ := mem_ready.1 hj
      have hnot : ∀ e ∈ oj.after, Region.binds md e = true → e.on ≠ i := fun e he hb heq => by
        have h1 := hall e he hb
        rw [heq, getD_both hun] at h1
        cases h1
      have h2 := canOp_putJ hoj (hfree j oj hoj hji hjun hnot) (fun cs b => hsel i oi cs b hi) (fun cs b => hsel j oj cs b hoj) hy h1
      have hfree' : ∀ k ok, ops[k]? = some ok → k ≠ i → (listed.setIfInBounds j true).getD k true = false →
          (∀ e ∈ ok.after, Region.binds md e = true → e.on ≠ i) → oi.apart ops ok = true := fun k ok hk hki hun hno => by
        refine hfree k ok hk hki ?_ hno
        by_cases hjk : j = k
        · subst hjk; exact hjun
        · rw [getD_set_ne true hjk] at hun; exact hun
      refine canOpJ_mono (fun a' w' h3 => ih (listed.setIfInBounds j true) a' w' (inv.set hj hjn) hfree' (ready_mono hr (Ne.symm hji)) h3.1 ?_) h2
      rw [Array.setIfInBounds_comm _ _ hji]
      exact h3.2
def wpJ (P : Program) (ops : Array Oper) (oF : List (Nat × Obj)) (rF : List Snap) (K : Act → World → Prop) : Pl → Act → World → Prop
  | .done, a, w => K a w
  | .flt i t, a, w => match ops[i]? with
    | none => False
    | some o => if Region.wanted o (yielded ops a.tmps) then ∃ v, (∀ w', Mem w' oF rF → fltAt P o a w' v) ∧ wpJ P ops oF rF K t (a.put o.dst v) w else wpJ P ops oF rF K t (a.put o.dst undef) w
  | .gr i t e, a, w => (match ops[i]? with
    | none => False
    | some o => if Region.wanted o (yielded ops a.tmps) then ∀ w', Later w w' → o.wp P a w' (fun a'' w'' => Mem w'' oF rF ∧ wpJ P ops oF rF K t a'' w'') (fun _ _ _ => False) else wpJ P ops oF rF K t (a.put o.dst undef) w) ∧ wpJ P ops oF rF K e a w
  | .nil, _, _ => True
theorem wpAnyJ_tree {n : Nat} {Q : Act → World → Prop} (hQ : ∀ a w w', Later w w' → Q a w → Q a w') (hsel : Region.noSelect ops = true)
    (hnt : ∀ i, i < n → ∀ listed, HeadInv md ops n listed → listed.getD i true = false → ∀ j ∈ Region.ready md ops listed, j < n) :
    ∀ (t : Pl) (f : Nat) (listed : Array Bool) (a : Act) (w : World), HeadInv md ops n listed →
      (treeB md ops n false f t listed = true → wpJ P ops oF rF Q t a w → wpAnyJ P md ops oF rF n (fun listed' a' w' => Region.seqB md ops (ops.size - n) n listed' = true ∧ Q a' w') f listed a w) ∧
      (treeB md ops n true f t listed = true → wpJ P ops oF rF Q t a w → ∀ j ∈ t.heads, j ∈ Region.ready md ops listed → 0 < f ∧ j < n ∧ canOpJ P ops oF rF j (wpAnyJ P md ops oF rF n (fun listed' a' w' => Region.seqB md ops (ops.size - n) n listed' = true ∧ Q a' w') (f - 1) (listed.setIfInBounds j true)) a w)
  | .done, f, listed, a, w, _ => ⟨fun hB h => by
      simp only [treeB, Bool.and_eq_true, decide_eq_true_eq] at hB
      obtain ⟨⟨_, rfl⟩, hB⟩ := hB
      exact ⟨hB, h⟩, fun hB => by simp [treeB] at hB⟩
  | .flt i t, f, listed, a, w, inv => ⟨fun hB h => by
      simp only [treeB, Bool.and_eq_true, decide_eq_true_eq] at hB
      obtain ⟨⟨⟨⟨⟨_, hf⟩, hin⟩, hr⟩, hfr⟩, hB'⟩ := hB
      obtain ⟨g, rfl⟩ : ∃ g, f = g + 1 := ⟨f - 1, by omega⟩
      have hr' : i ∈ Region.ready md ops listed := by simpa using hr
      unfold wpJ at h
      cases ho : ops[i]? with
      | none => simp only [ho] at h
      | some o =>
        simp only [ho] at h
        obtain ⟨v, hy, hK⟩ : ∃ v, YieldsJ P ops oF rF o v a ∧ wpJ P ops oF rF Q t (a.put o.dst v) w := by
          by_cases hw : Region.wanted o (yielded ops a.tmps) = true
          · rw [if_pos hw] at h
            obtain ⟨v, h1, h2⟩ := h
            exact ⟨v, .inl ⟨hw, h1⟩, h2⟩
          · rw [if_neg hw] at h
            exact ⟨undef, .inr ⟨by simpa using hw, rfl⟩, h⟩
        exact wpAnyJ_first (fun _ _ _ _ hw hq => ⟨hq.1, hQ _ _ _ hw hq.2⟩) ho (Region.noSelect_spec hsel) (hnt i hin) (fun _ _ _ hL => seqB_ready hL.1) hin g listed a w inv (Region.free_spec ho hfr) hr' hy
          ((wpAnyJ_tree hQ hsel hnt t g _ _ _ (inv.set hr' hin)).1 (by simpa using hB') hK), fun hB => by simp [treeB] at hB⟩
  | .gr i t e, f, listed, a, w, inv => by
      have alt : ∀ alt, treeB md ops n alt f (.gr i t e) listed = true → wpJ P ops oF rF Q (.gr i t e) a w → ∀ j ∈ (Pl.gr i t e).heads, j ∈ Region.ready md ops listed → 0 < f ∧ j < n ∧ canOpJ P ops oF rF j (wpAnyJ P md ops oF rF n (fun listed' a' w' => Region.seqB md ops (ops.size - n) n listed' = true ∧ Q a' w') (f - 1) (listed.setIfInBounds j true)) a w := by
        intro alt hB h j hj hjr
        simp only [treeB, Bool.and_eq_true, decide_eq_true_eq] at hB
        obtain ⟨⟨⟨⟨_, hf⟩, hin⟩, hB1⟩, hB2⟩ := hB
        unfold wpJ at h
        obtain ⟨h1, h2⟩ := h
        simp only [Pl.heads, List.mem_cons] at hj
        by_cases hji : j = i
        · subst hji
          refine ⟨hf, hin, fun w' hw' h0 => ?_⟩
          cases ho : ops[j]? with
          | none => simp only [ho] at h1
          | some o =>
            simp only [ho] at h1
            unfold wpOp
            simp only [ho]
            by_cases hw : Region.wanted o (yielded ops a.tmps) = true
            · rw [if_pos hw] at h1 ⊢
              exact .inl (Oper.wp_mono (fun a' w2 hk => ⟨hk.1, (wpAnyJ_tree hQ hsel hnt t _ _ _ _ (inv.set hjr hin)).1 hB1 hk.2⟩) (h1 w' hw'))
            · rw [if_neg hw] at h1 ⊢
              exact ⟨h0, wpAnyJ_later (fun _ _ _ _ hw hq => ⟨hq.1, hQ _ _ _ hw hq.2⟩) _ _ _ _ _ hw' ((wpAnyJ_tree hQ hsel hnt t _ _ _ _ (inv.set hjr hin)).1 hB1 h1)⟩
        · have hj' : j ∈ e.heads := by rcases hj with h | h; exact absurd h hji; exact h
          exact (wpAnyJ_tree hQ hsel hnt e f listed a w inv).2 hB2 h2 j hj' hjr
      refine ⟨fun hB h => ?_, alt true⟩
      have hB0 := hB
      simp only [treeB, Bool.and_eq_true, decide_eq_true_eq, Bool.false_or] at hB
      obtain ⟨⟨⟨⟨⟨hall, hne⟩, hf⟩, _⟩, _⟩, _⟩ := hB
      obtain ⟨g, rfl⟩ : ∃ g, f = g + 1 := ⟨f - 1, by omega⟩
      refine ⟨fun h0 => by rw [h0] at hne; simp at hne, fun j hj => ?_⟩
      have hjh : j ∈ (Pl.gr i t e).heads := by simpa using List.all_eq_true.1 hall j hj
      exact (alt false hB0 h j hjh hj).2
  | .nil, f, listed, a, w, _ => ⟨fun hB => by simp [treeB] at hB, fun _ _ j hj => by simp [Pl.heads] at hj⟩
theorem wp_region_inv {id : Nat} {Q : Exit → Act → World → Prop} {a : Act} {w : World} {l : List Oper} (n : Nat) (t : Pl) (hm : P.follows .mixedOrders = true)
    (hB : (Region.noSelect l.toArray && (decide (n = l.toArray.size) || (decide (n < l.toArray.size) && Region.sinkB .any l.toArray n && Region.chainB .any l.toArray n)) && treeB .any l.toArray n false n t (Array.replicate l.toArray.size false)) = true)
    (hw : Mem w oF rF) (h : wpJ P l.toArray oF rF (fun a' w' => ∀ w'', Later w' w'' → wpList P l.toArray Q (l.drop n) a' w'') t a w) : (Code.region id l.toArray true).wp P Q a w := by
  simp only [Bool.and_eq_true] at hB
  obtain ⟨⟨hsel, hn⟩, hpl⟩ := hB
  have hnle : n ≤ l.toArray.size := by
    rcases Bool.or_eq_true _ _ ▸ hn with hn | hn
    · simp only [decide_eq_true_eq] at hn; omega
    · simp only [Bool.and_eq_true, decide_eq_true_eq] at hn; omega
  have hnt : ∀ i, i < n → ∀ listed, HeadInv .any l.toArray n listed → listed.getD i true = false → ∀ j ∈ Region.ready .any l.toArray listed, j < n := by
    intro i hin listed inv hun j hj
    rcases Bool.or_eq_true _ _ ▸ hn with hn | hn
    · simp only [decide_eq_true_eq] at hn
      have := ready_lt j hj
      omega
    · simp only [Bool.and_eq_true, decide_eq_true_eq] at hn
      obtain ⟨⟨hn, hs⟩, hc⟩ := hn
      rcases Nat.lt_or_ge j n with h | h
      · exact h
      · exact absurd hj (tail_waits hs hc hn inv _ i rfl hin hun j h)
  have inv0 : HeadInv .any l.toArray n (Array.replicate l.toArray.size false) :=
    ⟨by simp, fun j oj _ hl => (by rw [getD_replicate_false] at hl; cases hl), fun t _ ht => getD_in (by simpa using ht) (getD_replicate_false _ _)⟩
  have H := (wpAnyJ_tree (P := P) (md := .any) (oF := oF) (rF := rF) (Q := fun a' w' => ∀ w'', Later w' w'' → wpList P l.toArray Q (l.drop n) a' w'') (fun a w w' hw hq w'' hw'' => hq w'' (hw.trans hw'')) hsel hnt t n _ a w inv0).1 hpl h
  refine wp_region_any hm ?_
  have hdl : (l.drop n).length = l.toArray.size - n := by simp
  have := wpAny_of_canJ (Q' := Q) (g := l.toArray.size - n) (oF := oF) (rF := rF) (fun listed a' w' _ hL => by
    have := wpAny_of_seq (md := .any) (Q' := Q) (l.drop n) n listed a' w' (fun j => by simp [List.getElem?_drop]) (by rw [hdl]; exact hL.1) (hL.2 w' (Later.refl _))
    rwa [hdl] at this) _ _ _ _ (hw.later (Later.drew w)) (wpAnyJ_later (fun _ _ _ _ hw hq => ⟨hq.1, fun w2 h2 => hq.2 w2 (hw.trans h2)⟩) _ _ _ _ _ (Later.drew w) H)
  rw [show n + (l.toArray.size - n) = l.toArray.size by omega] at this
  exact this
end
section
variable {P : Program} {n : Nat} {l : List (Nat × Value)} {own oF : List (Nat × Obj)} {ro : List Snap} {lops : List Oper} {Q : Exit → Act → World → Prop} {K : Act → World → Prop} {i d : Nat} {t e : Pl} {op : Op} {ty : TypeId} {pos : String} {af : Array Edge}
/-- A region that draws its order and turns blocks of the call's own: oF are those that it lets alone. -/
theorem rg_inv {id : Nat} {Q : Exit → Act → World → Prop} (oF : List (Nat × Obj)) (m : Nat) (t : Pl) (hsub : oF.Sublist own) (hm : P.follows .mixedOrders = true)
    (hB : (Region.noSelect lops.toArray && (decide (m = lops.toArray.size) || (decide (m < lops.toArray.size) && Region.sinkB .any lops.toArray m && Region.chainB .any lops.toArray m)) && treeB .any lops.toArray m false m t (Array.replicate lops.toArray.size false)) = true)
    (h : S (wpJ P lops.toArray oF ro (fun a' w' => ∀ w'', Later w' w'' → wpList P lops.toArray Q (lops.drop m) a' w'') t) n l own ro) : W P (.region id lops.toArray true) Q n l own ro :=
  fun a w ha hw => wp_region_inv m t hm hB (hw.less hsub (fun _ h => h)) (h a w ha hw)
theorem j_run {o : Oper} (ho : lops[i]? = some o) (hgo : Go_ lops n l o) (hd0 : o.dst = some d) (hd : decide (d < n) = true) {v : Value} (hv : OpV P n l oF ro o.op o.type v)
    (h : S (wpJ P lops.toArray oF ro K t) n ((d, v) :: l) own ro) : S (wpJ P lops.toArray oF ro K (.flt i t)) n l own ro := fun a w ha hw => by
  have hd' : d < n := of_decide_eq_true hd
  unfold wpJ
  simp only [List.getElem?_toArray, ho]
  rw [if_pos (hgo a ha)]
  refine ⟨v, fun w' hw' => ?_, by rw [hd0]; exact h _ w (ha.put v hd') hw⟩
  unfold fltAt
  rw [hv a w' _ ha hw' rfl rfl]
  exact ⟨rfl, rfl⟩
theorem j_val (ho : lops[i]? = some ⟨some d, op, ty, pos, af, none⟩) (hd : decide (d < n) = true) {v : Value} (hv : OpV P n l oF ro op ty v)
    (h : S (wpJ P lops.toArray oF ro K t) n ((d, v) :: l) own ro) : S (wpJ P lops.toArray oF ro K (.flt i t)) n l own ro := j_run ho (go_none rfl) rfl hd hv h
/-- An operation that turns a block, or makes one. -/
theorem j_gr (h : WX P lops.toArray (fun _ _ _ => False) (fun a w => Mem w oF ro ∧ wpJ P lops.toArray oF ro K t a w) [(none, i)] n l own ro) (he : S (wpJ P lops.toArray oF ro K e) n l own ro) : S (wpJ P lops.toArray oF ro K (.gr i t e)) n l own ro := fun a w ha hw => by
  have h := h a w ha hw
  unfold wpJ
  refine ⟨?_, he a w ha hw⟩
  simp only [wpX] at h
  split <;> rename_i ho <;> simp only [ho] at h
  split <;> rename_i hw'
  · intro w2 h2
    have h := h w2 h2
    rw [if_pos hw'] at h
    exact Oper.wp_mono (fun a' w' hk => hk w' (Later.refl _)) h
  · have h := h w (Later.refl _)
    rw [if_neg hw'] at h
    exact (h w (Later.refl _)).2
theorem j_end (hsub : oF.Sublist own) (h : S (wpJ P lops.toArray oF ro K t) n l own ro) : S (fun a w => Mem w oF ro ∧ wpJ P lops.toArray oF ro K t a w) n l own ro := fun a w ha hw => ⟨hw.less hsub (fun _ h => h), h a w ha hw⟩
theorem j_nil : S (wpJ P lops.toArray oF ro K .nil) n l own ro := fun _ _ _ _ => trivial
theorem j_done {m : Nat} (h : WX P lops.toArray Q (fun a w => Q .normal a w) (tailFrom m lops.length) n l own ro) :
    S (wpJ P lops.toArray oF ro (fun a' w' => ∀ w'', Later w' w'' → wpList P lops.toArray Q (lops.drop m) a' w'') .done) n l own ro :=
  fun a w ha hw w2 h2 => wpList_of_X _ m a w2 rfl (wpX_later h2 (h a w ha hw))
end
end Go.PK

/- Of the proofs of YtbamklefagghcaaGreatDoor; see NOTES.md. -/
/-! Messages: the reader of the reference. -/
namespace Go.PK
open Go Go.RowKit
set_option linter.unusedVariables false
/-- What is left to read from the middle of a text. -/
def contP (s : ByteArray) (g : Sg) (x : Nat) (bs : List UInt8) (out : List (List ByteArray)) : ElR :=
  match pieceP s g x bs with
  | none => none
  | some (t, c, a) => elP s g c a (addLast out ⟨t.toArray⟩)
end Go.PK

/- Of the proofs of YtbamklefagghcaaGreatDoor; see NOTES.md. -/
/-! 'append(b, s...)', s a string. -/
namespace Go.PK
open Go Go.RowKit
set_option linter.unusedVariables false
theorem append_str_block {P : Program} {w w' : World} (t u ty e : TypeId) (i : TypeInfo) (ht : P.underlying t = some (.slice e)) (hu : P.underlying u = some .string) (hi : P.info? e = some i) (hz : i.zero = some (.int .u8 0)) (hsize : i.size = 1) (hby : i.bytes = 1)
    (v v' : Value) (n : Nat) (xs : List Value) (hown : w.ownsRow 0 e 1 v n xs) (s : ByteArray) (h63 : n + s.size ≤ maxLen) (hbytes : n + s.size ≤ 140737488355328)
    (hr : (Builtin.append_ #[t, u] ty #[v, .string s]).run P w = .ok v' w') (h4 : v' = .slice none 0 0 ↔ v = .slice none 0 0 ∧ s.size = 0) : v'.ownBlock = v.ownBlock ∨ v'.ownBlock = some w.heap.size := by
  have hxl : xs.length = n := by simpa using hown.1
  simp only [maxLen] at h63
  rcases hown.2 with ⟨rfl, rfl⟩ | ⟨g, cap, cur, rfl, _, hg, hnc, hcm, hcs, htake⟩
  · by_cases hm : s.size = 0
    · exact .inl (by rw [h4.2 ⟨rfl, hm⟩])
    · have h2 := run_append_nil_string (P := P) w t u ty e i (.int .u8 0) ht hu hi hz s (by omega) (by omega) (by rw [hby]; omega)
      rw [h2] at hr
      injection hr with h5 h6
      exact .inr (by rw [← h5]; rfl)
  · by_cases hroom : n + s.size ≤ cap
    · have h2 := Lib.run_append_room_string (P := P) w t u ty e i ht hu hi hsize g n cap cur hg s hroom (by omega)
      rw [h2] at hr
      injection hr with h5 h6
      exact .inl (by rw [← h5]; rfl)
    · have holds : ∀ j u, xs[j]? = some u → w.cell? ((⟨g, 0, none⟩ : Addr).add j) = some u := World.ownsRow.cells hown (g := g) rfl
      have h2 := Lib.run_append_grow_string (P := P) w t u ty e i (.int .u8 0) ht hu hi hz ⟨g, 0, none⟩ n cap xs (by rw [hsize]; simpa using hxl) holds s (by omega) (by omega) (by rw [hby]; exact growslice_fits (by omega) (by omega))
      rw [h2] at hr
      injection hr with h5 h6
      exact .inr (by rw [← h5]; rfl)
section
variable {P : Program} {b off : Nat} {t' : TypeId} {n : Nat} {l : List (Nat × Value)} {own : List (Nat × Obj)} {ro : List Snap} {lops : List Oper} {Q : Exit → Act → World → Prop} {K : Act → World → Prop}
  {rest : List (Option Bool × Nat)} {k : Option Bool} {i d : Nat} {ty t u : TypeId} {pos : String} {af : Array Edge} {x y : Operand}
theorem x_append_str {e : TypeId} {len : Nat} {xs : List Value} {s : ByteArray} (l1 : List (Nat × Obj)) {l2 : List (Nat × Obj)} (r : RowS) (ho : lops[i]? = some ⟨some d, .call ⟨.builtin .append, #[x, y], #[t, u]⟩, ty, pos, af, none⟩) (hd : decide (d < n) = true)
    (hx : ev l x = some (rowV r len)) (hy : ev l y = some (.string s)) (hown : own = l1 ++ rowO e r ++ l2) (hr : rowOK 1 r len xs)
    (ht : P.underlying t = some (.slice e)) (hu : P.underlying u = some .string) (hi : (P.info? e).map (fun j => (j.zero, j.size, j.bytes)) = some (some (.int .u8 0), 1, 1))
    (hb1 : len + s.size ≤ maxLen) (hb2 : len + s.size ≤ 140737488355328)
    (h : ∀ r', rowOK 1 r' (len + s.size) (xs ++ byC s.data.toList) → WX P lops.toArray Q K rest n ((d, rowV r' (len + s.size)) :: l) (l1 ++ rowO e r' ++ l2) ro) : WX P lops.toArray Q K ((none, i) :: rest) n l own ro := by
  subst hown
  intro a w ha hw
  have hd' : d < n := of_decide_eq_true hd
  have hw1 := go_none (lops := lops) (n := n) (l := l) (o := ⟨some d, .call ⟨.builtin .append, #[x, y], #[t, u]⟩, ty, pos, af, none⟩) rfl a ha
  simp only [wpX, List.getElem?_toArray, ho]
  intro w' hl'
  rw [if_pos hw1]
  have hM := hw.later hl'
  obtain ⟨inf, hi1, hi2⟩ := Option.map_eq_some_iff.1 hi
  simp only [Prod.mk.injEq] at hi2
  obtain ⟨hiz, his, hib⟩ := hi2
  have hown := row_owns (own := []) hM hr
  obtain ⟨v', w2, hrun, h2, h3, h4⟩ := Lib.run_append_own_string (P := P) w' 0 t u ty e inf ht hu hi1 hiz his hib (rowV r len) len xs hown s hb1 hb2 (Nat.zero_le _)
  have h5 := append_str_block (P := P) t u ty e inf ht hu hi1 hiz his hib _ v' len xs hown s hb1 hb2 hrun h4
  obtain ⟨r', rfl, hok, hM2⟩ := hM.append h2 h3 h5
  unfold Oper.wp execOp
  simp only [resolve, invoke, builtin, Sem.run_bind, Sem.run_pure, Result.andThen_ok, List.map_toArray, List.map_cons, List.map_nil, ha.eval hx, ha.eval hy, hrun]
  exact h r' hok _ _ (ha.put _ hd') hM2
/-- '[]byte(s)' under a guard that holds. -/
theorem x_bytes_g {jj dj : Nat} {want : Bool} {e : TypeId} {s : ByteArray} {u : TypeDesc} (ho : lops[i]? = some ⟨some d, .convert t t' x, ty, pos, af, some (jj, want)⟩) (hj : (lops[jj]?).bind (·.dst) = some dj) (hb : l.lookup dj = some (.bool want)) (hk : (k == some true) = false) (hd : decide (d < n) = true)
    (hs : P.underlying t = some u) (hd2 : P.underlying t' = some (.slice e)) (he : P.underlying e = some (.int .u8)) (hx : ev l x = some (.string s))
    (h : ∀ b cp (cs : List Value) fz, s.size ≤ cp → cs.take s.size = byC s.data.toList → WX P lops.toArray Q K rest n ((d, .slice (some ⟨b, 0, none⟩) s.size cp) :: l) ((b, .cells cs.toArray e fz) :: own) ro) : WX P lops.toArray Q K ((k, i) :: rest) n l own ro := by
  intro a w ha hw
  have hd' : d < n := of_decide_eq_true hd
  have hw1 := go_some (lops := lops) (n := n) (l := l) (o := ⟨some d, .convert t t' x, ty, pos, af, some (jj, want)⟩) rfl hj hb a ha
  simp only [wpX, List.getElem?_toArray, ho]
  have hlat : ∀ w', Later w' (Lib.bytesWorld w' e s) := fun w' => ⟨rfl, rfl, rfl, by rw [Lib.bytesWorld_size]; omega, fun j hj => Lib.bytesWorld_at_old w' e s j hj⟩
  have hrun : ∀ w', (execOp a.eval ⟨some d, .convert t t' x, ty, pos, af, some (jj, want)⟩).run P w' = .ok (.value (.slice (some ⟨w'.heap.size, 0, none⟩) s.size (grownCap w' s.size 0 e))) (Lib.bytesWorld w' e s) := fun w' => by
    simp [execOp, ha.eval hx, Lib.run_convert_string_bytes w' t t' e s hs hd2 he]
  have key : ∀ w', Later w w' → wpX P lops.toArray Q K rest (a.put (some d) (.slice (some ⟨w'.heap.size, 0, none⟩) s.size (grownCap w' s.size 0 e))) (Lib.bytesWorld w' e s) := fun w' hl => by
    have hM := hw.later hl
    refine h _ _ (Lib.bytesCells w' e s).toList ((Lib.bytesCells w' e s).size, (Lib.bytesCells w' e s).size + 1) (grownCap_ge _ _ _ _) ?_ _ _ (ha.put _ hd') ?_
    · unfold Lib.bytesCells byC
      have : (s.data.map fun b => Value.int .u8 b.toNat).toList.length = s.size := by simp
      rw [Array.toList_append, ← this, List.take_left]
      simp
    · have hl2 := hlat w'
      have h2 := hM.later hl2
      refine ⟨fun p hp => ?_, ?_, h2.ro_st, h2.ro_at, fun p hp s' hs' hdd => ?_⟩
      · rcases List.mem_cons.1 hp with rfl | hp
        · simpa using Lib.bytesWorld_at_new w' e s
        · exact h2.own_at p hp
      · simp only [List.map_cons, List.nodup_cons]
        refine ⟨fun hm => ?_, h2.own_nd⟩
        obtain ⟨p, hp, he'⟩ := List.mem_map.1 hm
        have := hM.lt hp
        omega
      · rcases List.mem_cons.1 hp with rfl | hp
        · exact (hM.ro_st s' hs').2.2.2
        · exact h2.apart p hp s' hs' hdd
  cases k with
  | none =>
    intro w' hl
    rw [if_pos hw1]
    unfold Oper.wp
    rw [hrun]
    exact key w' hl
  | some b0 =>
    have : b0 = false := by cases b0 <;> simp_all
    subst this
    dsimp only
    rw [if_pos hw1]
    intro w' hl
    unfold Oper.wp
    rw [hrun]
    exact ⟨hlat w', key w' hl⟩
end
theorem calls_cl {P : Program} {f : FuncId} {v : Value} {w : World} {Q : Ending → World → Prop} (h : Calls P f #[v] w Q) : Calls P f (#[v] ++ #[]) w Q := by simpa using h
theorem bytes_rd {D : Nat → Prop} {w : World} {b n cp : Nat} {cs : List Value} {e : TypeId} {fz : Nat × Nat} {xs : List UInt8} (h0 : w.heap[b]? = some (.cells cs.toArray e fz)) (hn : n = xs.length) (ht : cs.take n = byC xs) (hc : n ≤ cp) (hm : n ≤ 9223372036854775807) (hD : D b) :
    sliceRd tyB D w (.slice (some ⟨b, 0, none⟩) n cp) xs := by
  subst hn
  refine ⟨_, _, rfl, hc, hm, fun h => ⟨b, 0, rfl, hD, heap_lt h0, fun j hj => ⟨_, fun i hi => ?_, rfl⟩⟩⟩
  have hi : i = 0 := by simpa using hi
  subst hi
  have h1 : cs[j]? = some (.int .u8 xs[j].toNat) := by
    have h2 := byC_at hj
    rw [← ht, List.getElem?_take, if_pos hj] at h2
    exact h2
  rw [Nat.zero_add, Nat.add_zero, show tyB.size = 1 from rfl, Nat.mul_one, cell_of_row w b _ cs.toArray e fz h0, List.getElem?_toArray]
  simpa using h1
end Go.PK

/- Of the proofs of YtbamklefagghcaaGreatDoor; see NOTES.md. -/
/-! Messages: the plain functions of chapter 22 (writing). -/
namespace Go.PK
open Go Go.RowKit
set_option linter.unusedVariables false
def bl (s : ByteArray) : List UInt8 := s.data.toList
theorem bl_len (s : ByteArray) : (bl s).length = s.size := by unfold bl; simp
theorem bl_str (s : ByteArray) : (⟨(bl s).toArray⟩ : ByteArray) = s := by unfold bl; simp
theorem bl_mk (l : List UInt8) : bl ⟨l.toArray⟩ = l := by unfold bl; simp
theorem bl_get {s : ByteArray} {k : Nat} (h : k < (bl s).length) : (bl s)[k] = byteAt s k := by
  unfold bl byteAt at *; rw [List.getD_eq_getElem?_getD, List.getElem?_eq_getElem h]; rfl
theorem str_app (bs : List UInt8) (s : ByteArray) : (⟨bs.toArray⟩ : ByteArray) ++ s = ⟨(bs ++ bl s).toArray⟩ := by
  rw [ByteArray.ext_iff]; simp [bl]
def escB (c : UInt8) : List UInt8 := if signB c then [63, c] else [c]
def escL (l : List UInt8) : List UInt8 := l.flatMap escB
theorem escL_cons (c : UInt8) (l : List UInt8) : escL (c :: l) = escB c ++ escL l := rfl
def elT (c : UInt8) : List ByteArray → List UInt8
  | [] => []
  | t :: ts => c :: (escL (bl t) ++ elT 58 ts)
def sgT (x : Seg) : List UInt8 := bl x.tag ++ (x.els.flatMap (elT 43) ++ [39])
def rightSg (x : Seg) : Bool := decide (x.tag.size = 3) && !(bl x.tag).any (fun c => !capB c) && !x.els.any List.isEmpty
def unaT : ByteArray := ⟨#[85, 78, 65]⟩
def goodW (k : Nat) (x : Seg) : Prop := rightSg x = true ∧ ¬(k = 0 ∧ x.tag = unaT)
instance (k : Nat) (x : Seg) : Decidable (goodW k x) := by unfold goodW; infer_instance
abbrev WrR := ByteArray × Int
def wrT (l : List Seg) : List UInt8 := l.flatMap sgT
/-- Segments, written. -/
def wrR (l : List Seg) : WrR :=
  if l.length > 10000 then (⟨#[]⟩, 2)
  else if ∀ k (h : k < l.length), goodW k l[k] then (⟨(wrT l).toArray⟩, 0) else (⟨#[]⟩, 1)
theorem wrR_many {l : List Seg} (h : l.length > 10000) : wrR l = (⟨#[]⟩, 2) := by unfold wrR; rw [if_pos h]
theorem wrR_bad {l : List Seg} {k : Nat} (h : ¬l.length > 10000) (hk : k < l.length) (hb : ¬goodW k l[k]) : wrR l = (⟨#[]⟩, 1) := by
  unfold wrR; rw [if_neg h, if_neg (fun h2 => hb (h2 k hk))]
theorem wrR_ok {l : List Seg} (h : ¬l.length > 10000) (hg : ∀ k (h : k < l.length), goodW k l[k]) : wrR l = (⟨(wrT l).toArray⟩, 0) := by
  unfold wrR; rw [if_neg h, if_pos hg]
theorem wrT_drop {l : List Seg} {k : Nat} (h : k < l.length) : wrT (l.drop k) = bl l[k].tag ++ (l[k].els.flatMap (elT 43) ++ ([39] ++ wrT (l.drop (k + 1)))) := by
  unfold wrT; rw [List.drop_eq_getElem_cons h, List.flatMap_cons]; unfold sgT; simp only [List.append_assoc]
theorem els_drop {x : List (List ByteArray)} {j : Nat} (h : j < x.length) : (x.drop j).flatMap (elT 43) = elT 43 x[j] ++ (x.drop (j + 1)).flatMap (elT 43) := by
  rw [List.drop_eq_getElem_cons h, List.flatMap_cons]
theorem elT_drop {e : List ByteArray} {i : Nat} {c : UInt8} (h : i < e.length) : elT c (e.drop i) = c :: (escL (bl e[i]) ++ elT 58 (e.drop (i + 1))) := by
  rw [List.drop_eq_getElem_cons h]; rfl
theorem esc_drop {t : ByteArray} {m : Nat} (h : m < t.size) : escL ((bl t).drop m) = escB (byteAt t m) ++ escL ((bl t).drop (m + 1)) := by
  have h2 : m < (bl t).length := by rw [bl_len]; exact h
  rw [List.drop_eq_getElem_cons h2, escL_cons, bl_get h2]
theorem drop_all {α : Type} {l : List α} {k : Nat} (h : ¬k < l.length) : l.drop k = [] := List.drop_eq_nil_of_le (by omega)
theorem rightSg_tag {x : Seg} (h : rightSg x = true) : x.tag.size = 3 := by
  unfold rightSg at h; simp only [Bool.and_eq_true, decide_eq_true_eq] at h; exact h.1.1
theorem usual_sign (c : UInt8) : hasU (gl usualG) c = signB c := by
  unfold hasU gl usualG signB; simp [Bool.or_assoc]
theorem Mem.perm {w : World} {own own' : List (Nat × Obj)} {ro : List Snap} (h : Mem w own ro) (p : own.Perm own') : Mem w own' ro where
  own_at := fun q hq => h.own_at q (p.mem_iff.2 hq)
  own_nd := (p.map (·.1)).nodup_iff.1 h.own_nd
  ro_st := h.ro_st
  ro_at := h.ro_at
  apart := fun q hq => h.apart q (p.mem_iff.2 hq)
theorem len_le {a b c : List UInt8} {N : Nat} (h : a ++ b = c) (hc : c.length ≤ N) : a.length ≤ N := by
  have := congrArg List.length h; rw [List.length_append] at this; omega
theorem mk_size (l : List UInt8) : (⟨l.toArray⟩ : ByteArray).size = l.length := List.size_toArray
theorem str_app2 (a b : List UInt8) : (⟨a.toArray⟩ : ByteArray) ++ ⟨b.toArray⟩ = ⟨(a ++ b).toArray⟩ := by rw [str_app, bl_mk]
def sepB (i : Nat) : UInt8 := if i = 0 then 43 else 58
end Go.PK

/- Of the proofs of YtbamklefagghcaaGreatDoor; see NOTES.md. -/
/-! Orders as segments. -/
namespace Go.PK
open Go Go.RowKit
set_option linter.unusedVariables false
theorem later_grow (w : World) (n : Nat) (os : Array Obj) : Later w (Sort.grow (w.drewN n) os) where
  os := rfl
  tape := rfl
  output := rfl
  size := by rw [Sort.size_grow]; show w.heap.size ≤ w.heap.size + os.size; omega
  block := fun k hk => by
    show (w.heap ++ os)[k]? = w.heap[k]?
    rw [Array.getElem?_append_left hk]
theorem later_alloc (w : World) (o : Obj) : Later w (w.alloc o) where
  os := rfl
  tape := rfl
  output := rfl
  size := by show w.heap.size ≤ (w.heap.push o).size; rw [Array.size_push]; omega
  block := fun k hk => by
    show (w.heap.push o)[k]? = w.heap[k]?
    rw [Array.getElem?_push, if_neg (by omega)]
theorem alloc_at (w : World) (o : Obj) : (w.alloc o).heap[w.heap.size]? = some o := by
  show (w.heap.push o)[w.heap.size]? = _
  simp
def itoaS (n : Int) : ByteArray := ⟨(Lib.itoa n).toArray⟩
theorem itoaS_size {n : Int} (h : in64 n) : (itoaS n).size ≤ 21 := by
  unfold itoaS; rw [mk_size]; exact Lib.itoa_length_le n h.1 h.2
def colon : ByteArray := ⟨#[58]⟩
def splitC (e : ByteArray) : List ByteArray := Lib.splitB colon 0 (Lib.countB e colon) e
theorem splitC_len (e : ByteArray) : (splitC e).length = Lib.countB e colon + 1 := Lib.splitB_all colon (by decide) 0 _ e rfl
theorem splitB_size (sep : ByteArray) : ∀ (k : Nat) (s : ByteArray), ∀ p ∈ Lib.splitB sep 0 k s, p.size ≤ s.size
  | 0, s, p, h => by rw [Lib.splitB_zero, List.mem_singleton] at h; rw [h]; exact Nat.le_refl _
  | k + 1, s, p, h => by
    unfold Lib.splitB at h
    split at h
    · rw [List.mem_singleton] at h; rw [h]; exact Nat.le_refl _
    · rcases List.mem_cons.1 h with rfl | h
      · rw [ByteArray.size_extract]; omega
      · have := splitB_size sep k _ p h
        rw [ByteArray.size_extract] at this; omega
theorem splitC_ok {e : ByteArray} (h : okS e) : ∀ p ∈ splitC e, okS p := fun p hp => by
  have := splitB_size _ _ _ p hp
  unfold okS at *; omega
structure Ord where
  id : Int
  fund : Int
  src : Int
  num : Int
  copies : Int
  price : Int
  prom : Int
  paid : Int
  st : Int
deriving DecidableEq
def Ord.cells (o : Ord) : List Value := [.int .i64 o.id, .int .i64 o.fund, .int .i64 o.src, .int .i64 o.num, .int .i64 o.copies, .int .i64 o.price, .int .i64 o.prom, .int .i64 o.paid, .int .i64 o.st]
def Ord.ok (o : Ord) : Prop := in64 o.id ∧ in64 o.fund ∧ in64 o.src ∧ in64 o.num ∧ in64 o.copies ∧ in64 o.price
def wi (a b : Int) (l : List Int) : Bool := !l.any (fun n => decide (n < a) || decide (n > b))
def writB (o : Ord) : Bool := wi 1 999999999 [o.id, o.fund] && wi 0 999999999 [o.src, o.num, o.price] && wi 1 9999 [o.copies]
def segP (tag : ByteArray) (es : List ByteArray) : Seg := ⟨tag, es.map splitC⟩
def strB (l : List UInt8) : ByteArray := ⟨l.toArray⟩
def artS (s n : Int) : ByteArray := ((itoaS s ++ ⟨#[46]⟩) ++ itoaS n) ++ ⟨#[58, 83, 82, 86]⟩
theorem artS_size {s n : Int} (h1 : in64 s) (h2 : in64 n) : (artS s n).size ≤ 60 := by
  have a := itoaS_size h1; have b := itoaS_size h2
  unfold artS
  rw [ByteArray.size_append, ByteArray.size_append, ByteArray.size_append]
  have e1 : (⟨#[46]⟩ : ByteArray).size = 1 := rfl
  have e2 : (⟨#[58, 83, 82, 86]⟩ : ByteArray).size = 4 := rfl
  omega
def orderP (o : Ord) : List Seg :=
  [⟨⟨#[85, 78, 72]⟩, [splitC (⟨#[49]⟩), splitC (⟨#[79, 82, 68, 69, 82, 83, 58, 68, 58, 57, 54, 65, 58, 85, 78]⟩)]⟩,
   ⟨⟨#[66, 71, 77]⟩, [splitC (⟨#[50, 50, 48]⟩), splitC (itoaS o.id)]⟩,
   ⟨⟨#[76, 73, 78]⟩, [splitC (⟨#[49]⟩), splitC (⟨#[]⟩), splitC (artS o.src o.num)]⟩,
   ⟨⟨#[81, 84, 89]⟩, [splitC (⟨#[50, 49, 58]⟩ ++ itoaS o.copies)]⟩,
   ⟨⟨#[80, 82, 73]⟩, [splitC (⟨#[65, 65, 65, 58]⟩ ++ itoaS o.price)]⟩,
   ⟨⟨#[82, 70, 70]⟩, [splitC (⟨#[66, 70, 78, 58]⟩ ++ itoaS o.fund)]⟩,
   ⟨⟨#[85, 78, 84]⟩, [splitC (⟨#[55]⟩), splitC (⟨#[49]⟩)]⟩]
def orderR (o : Ord) : List Seg := if writB o then orderP o else []
inductive RdAll {α : Type} (T : Ty α) (D : Nat → Prop) (w : World) : List (List Value) → List α → Prop where
  | nil : RdAll T D w [] []
  | cons {c : List Value} {x : α} {css : List (List Value)} {xs : List α} (h : T.rd D w c x) (t : RdAll T D w css xs) : RdAll T D w (c :: css) (x :: xs)
theorem RdAll.len {α : Type} {T : Ty α} {D : Nat → Prop} {w : World} : ∀ {css : List (List Value)} {xs : List α}, RdAll T D w css xs → css.length = xs.length ∧ css.flatten.length = xs.length * T.size
  | [], [], .nil => ⟨rfl, by simp⟩
  | _ :: _, _ :: _, .cons h t => by
    have ih := t.len
    have := T.len h
    refine ⟨by simp [ih.1], ?_⟩
    rw [List.flatten_cons, List.length_append, ih.2, this, List.length_cons, Nat.succ_mul, Nat.add_comm]
theorem RdAll.at {α : Type} {T : Ty α} {D : Nat → Prop} {w : World} : ∀ {css : List (List Value)} {xs : List α}, RdAll T D w css xs → ∀ j (h1 : j < css.length) (h2 : j < xs.length), T.rd D w css[j] xs[j]
  | _, _, .nil, _, h, _ => by simp at h
  | _, _, .cons h t, 0, _, _ => h
  | _, _, .cons h t, j + 1, h1, h2 => t.at j (by simpa using h1) (by simpa using h2)
/-- A row that is written out. -/
theorem RdAll.rd {α : Type} {T : Ty α} {w : World} {own : List (Nat × Obj)} {ro : List Snap} {e : TypeId} {b n : Nat} {css : List (List Value)} {xs : List α} {w0 : World} (h : RdAll T (newD w0 own) w css xs) (hm : Mem w own ro) (hin : (b, Obj.cells css.flatten.toArray e) ∈ own) (hb : (w0, fun _ => True) ∈ ro) (hn : n = xs.length) (hx : xs.length ≤ maxLen) :
    sliceRd T (fun b => w0.heap.size ≤ b) w (.slice (some ⟨b, 0, none⟩) n n) xs := by
  subst hn
  have hl := h.len
  have hT : RowT T (newD w0 own) w (some (b, css.flatten, xs.length)) xs := ⟨css, hl.1, rowOK_lit hl.2 hx, h.at⟩
  exact hT.rd hm (fun p hp => by rw [List.mem_singleton.1 hp]; exact hin) (fun _ h => h.1) (fun p hp => by rw [List.mem_singleton.1 hp]; exact hm.newer hb hin) rfl
end Go.PK

/- Of the proofs of YtbamklefagghcaaGreatDoor; see NOTES.md. -/
/-! Segments that numbers determine: the plain function. -/
namespace Go.PK
open Go Go.RowKit
set_option linter.unusedVariables false
def textAt (texts : List ByteArray) (c : UInt8) : ByteArray := texts.getD (c.toNat / 4 % texts.length) ⟨#[]⟩
def stepEl (texts : List ByteArray) (xs : List (List ByteArray)) (c : UInt8) : List (List ByteArray) :=
  if c.toNat % 64 = 63 then xs ++ [[]] else addLast (if xs.length = 0 ∨ c.toNat % 4 = 0 then xs ++ [[]] else xs) (textAt texts c)
def elsAt (texts : List ByteArray) (row : List UInt8) (j : Nat) : List (List ByteArray) := (row.take j).foldl (stepEl texts) []
def segAt (texts : List ByteArray) (l : List (List UInt8)) (tags : List ByteArray) (k : Nat) : Seg := ⟨tags.getD k ⟨#[]⟩, elsAt texts (l.getD k []) 12⟩
def segsK (tags texts : List ByteArray) (l : List (List UInt8)) (k : Nat) : List Seg := (List.range k).map (segAt texts l tags)
def segsP (tags texts : List ByteArray) (l : List (List UInt8)) : List Seg := segsK tags texts l (min tags.length 10)
theorem getD_at {α : Type} {l : List α} {k : Nat} {d : α} (h : k < l.length) : l.getD k d = l[k] := by rw [List.getD_eq_getElem?_getD, List.getElem?_eq_getElem h]; rfl
end Go.PK

/- Of the proofs of YtbamklefagghcaaGreatDoor; see NOTES.md. -/
/-! More operations: conversions that keep the number. -/
namespace Go.PK
open Go Go.RowKit
set_option linter.unusedVariables false
section
variable {P : Program} {n : Nat} {l : List (Nat × Value)} {own : List (Nat × Obj)} {ro : List Snap} {ty t t' : TypeId} {x y : Operand} {k k' : IntKind} {a b : Int}
theorem v_conv64 {td : TypeDesc} (hs : P.underlying t = some td) (hd : P.underlying t' = some (.int .i64)) (hx : ev l x = some (.int k a)) (h : -9223372036854775808 ≤ a ∧ a ≤ 9223372036854775807) : OpV P n l own ro (.convert t t' x) ty (.int .i64 a) := by
  have := v_conv (n := n) (own := own) (ro := ro) (ty := ty) hs hd hx
  rwa [wrap_in h] at this
theorem v_remN {a b : Nat} (hx : ev l x = some (.int k (a : Nat))) (hy : ev l y = some (.int k (b : Nat))) (h0 : b ≠ 0) : OpV P n l own ro (.binOp .rem t x y t') ty (.int k ((a % b : Nat) : Int)) :=
  v_rem hx hy (by omega)
theorem v_quoN {a b : Nat} (hx : ev l x = some (.int .i64 (a : Nat))) (hy : ev l y = some (.int .i64 (b : Nat))) (h0 : b ≠ 0) (h : a ≤ 9223372036854775807) : OpV P n l own ro (.binOp .quo t x y t') ty (.int .i64 ((a / b : Nat) : Int)) :=
  v_quoi (c := ((a / b : Nat) : Int)) hx hy (by omega) rfl (by have h2 := Nat.div_le_self a b; generalize a / b = q at h2 ⊢; constructor <;> omega)
/-- 's[i:]', s a slice. -/
theorem v_scut_from {e : TypeId} {A : Option Addr} {len cap i m : Nat} {kk : IntKind} (ht : P.underlying t = some (.slice e)) (hs : (P.info? e).map (·.size) = some m) (hx : ev l x = some (.slice A len cap)) (hy : ev l y = some (.int kk (i : Nat))) (hi : i ≤ len) (hc : len ≤ cap) :
    OpV P n l own ro (.slice t x (some y) none none) ty (.slice (if cap = i then A else A.map (fun a => a.add (i * m))) (len - i) (cap - i)) := by
  intro a w o ha hw ho _
  have h2 : (Instr.sliceAt t (.slice A len cap) (some (.int kk (i : Nat))) none none).run P w = .ok (.slice (if cap = i then A else A.map (fun a => a.add (i * m))) (len - i) (cap - i)) w := by
    simp [Instr.sliceAt, Instr.slice, Instr.sliceBounds, Instr.sliceBound, asIntOf, run_underlying ht, hi, run_sizeOf hs]
  simp [execOp, ho, ha.eval hx, ha.eval hy, h2]
theorem v_saddL {a b : List UInt8} (hx : ev l x = some (.string ⟨a.toArray⟩)) (hy : ev l y = some (.string ⟨b.toArray⟩)) (h : a.length + b.length ≤ 9223372036854775807) : OpV P n l own ro (.binOp .add t x y t') ty (.string ⟨(a ++ b).toArray⟩) := by
  rw [← str_app2]
  exact v_sadd hx hy (by rw [mk_size, mk_size]; exact h)
end
end Go.PK

/- Of the proofs of YtbamklefagghcaaGreatDoor; see NOTES.md. -/
/-! The examples of the document: what they are. -/
namespace Go.PK
open Go Go.RowKit
set_option linter.unusedVariables false
theorem okS_small {s : ByteArray} (h : s.size ≤ 100000) : okS s := by unfold okS; omega
/-- A row that is written out, read. -/
theorem lits_own {α : Type} {T : Ty α} {D : Nat → Prop} {w : World} {own : List (Nat × Obj)} {ro : List Snap} {b n : Nat} {e : TypeId} (css : List (List Value)) {xs : List α} (hm : Mem w own ro) (hb : (b, Obj.cells css.flatten.toArray e) ∈ own)
    (hn : n = xs.length) (hmx : xs.length ≤ 9223372036854775807) (hD : D b) (hrd : Reads T D w css xs) : sliceRd T D w (.slice (some ⟨b, 0, none⟩) n n) xs :=
  lits_rd css (hm.own_at _ hb) rfl hn hmx hD hrd
theorem lits_new {α : Type} {T : Ty α} {w w0 : World} {own : List (Nat × Obj)} {ro : List Snap} {b n : Nat} {e : TypeId} (css : List (List Value)) {xs : List α} (hm : Mem w own ro) (hs : (w0, fun _ => True) ∈ ro) (hb : (b, Obj.cells css.flatten.toArray e) ∈ own)
    (hn : n = xs.length) (hmx : xs.length ≤ 9223372036854775807) (hrd : Reads T (fun b => w0.heap.size ≤ b) w css xs) : sliceRd T (fun b => w0.heap.size ≤ b) w (.slice (some ⟨b, 0, none⟩) n n) xs :=
  lits_own css hm hb hn hmx (hm.newer hs hb) hrd
def egA : Seg := ⟨⟨#[65, 66, 67]⟩, [[(⟨#[97]⟩ : ByteArray), (⟨#[98]⟩ : ByteArray)], [(⟨#[43]⟩ : ByteArray)]]⟩
def egB : Seg := ⟨⟨#[65, 66, 67]⟩, [[(⟨#[120, 35]⟩ : ByteArray), (⟨#[121]⟩ : ByteArray)]]⟩
def egC : Seg := ⟨⟨#[65, 66, 67]⟩, [[(⟨#[105, 116, 39, 115]⟩ : ByteArray)]]⟩
theorem ex_a : parR ⟨#[65, 66, 67, 43, 97, 58, 98, 43, 63, 43, 39]⟩ = ([egA], 0, 0) := by decide +kernel
theorem ex_b : parR ⟨#[85, 78, 65, 42, 35, 46, 33, 32, 126, 65, 66, 67, 35, 120, 33, 35, 42, 121, 126]⟩ = ([egB], 0, 0) := by decide +kernel
theorem ex_c : parR ⟨#[65, 66, 67, 43, 97]⟩ = ([], 5, 10) := by decide +kernel
theorem ex_d : parR ⟨#[65, 98, 67, 39]⟩ = ([], 0, 40) := by decide +kernel
theorem ex_e : parR ⟨#[65, 66, 67, 68, 39]⟩ = ([], 3, 40) := by decide +kernel
theorem ex_w : wrR [egC] = (⟨#[65, 66, 67, 43, 105, 116, 63, 39, 115, 39]⟩, 0) := by decide +kernel
def egO : Ord := ⟨7, 2, 1, 5, 3, 1250, 0, 0, 0⟩
theorem ex_o : wrR (orderR egO) = (⟨#[85, 78, 72, 43, 49, 43, 79, 82, 68, 69, 82, 83, 58, 68, 58, 57, 54, 65, 58, 85, 78, 39, 66, 71, 77, 43, 50, 50, 48, 43, 55, 39, 76, 73, 78, 43, 49, 43, 43, 49, 46, 53, 58, 83, 82, 86, 39, 81, 84, 89, 43, 50, 49, 58, 51, 39, 80, 82, 73, 43, 65, 65, 65, 58, 49, 50, 53, 48, 39, 82, 70, 70, 43, 66, 70, 78, 58, 50, 39, 85, 78, 84, 43, 55, 43, 49, 39]⟩, 0) := by decide +kernel
theorem ex_wl : (wrT [egC]).length ≤ 2000000000000 := by decide +kernel
theorem ex_ol : (wrT (orderR egO)).length ≤ 2000000000000 := by decide +kernel
end Go.PK

/- Of the proofs of YtbamklefagghcaaGreatDoor; see NOTES.md. -/
/-! Numbers as texts: what is written is read again; texts in front of and behind a sign. -/
namespace Go.PK
open Go Go.RowKit
set_option linter.unusedVariables false
def digB8 (c : UInt8) : Bool := decide (48 ≤ c.toNat ∧ c.toNat ≤ 57)
def numF (l : List UInt8) (a : Nat) : Nat := l.foldl (fun a c => 10 * a + (c.toNat - 48)) a
theorem numF_snoc (l : List UInt8) (c : UInt8) (a : Nat) : numF (l ++ [c]) a = 10 * numF l a + (c.toNat - 48) := by simp [numF]
/-- Digits without leading zeros. -/
def canonL (l : List UInt8) : Prop := l ≠ [] ∧ (∀ c ∈ l, digB8 c = true) ∧ (1 < l.length → l.head? ≠ some 48)
instance (l : List UInt8) : Decidable (canonL l) := by unfold canonL; infer_instance
theorem dig_of {d : Nat} (h : d < 10) : (UInt8.ofNat (48 + d)).toNat = 48 + d := by
  rw [UInt8.toNat_ofNat_of_lt' (by show _ < 256; omega)]
theorem digB8_of {d : Nat} (h : d < 10) : digB8 (UInt8.ofNat (48 + d)) = true := by
  unfold digB8; rw [dig_of h]; exact decide_eq_true (by omega)
theorem dig_back {c : UInt8} (h : digB8 c = true) : UInt8.ofNat (48 + (c.toNat - 48)) = c := by
  have := of_decide_eq_true h
  rw [show 48 + (c.toNat - 48) = c.toNat by omega]
  exact UInt8.ofNat_toNat
theorem dec_small {u : Nat} (h : u < 10) : Lib.decDigits u = [UInt8.ofNat (48 + u)] := by rw [Lib.decDigits, dif_pos h]
theorem dec_big {u : Nat} (h : ¬u < 10) : Lib.decDigits u = Lib.decDigits (u / 10) ++ [UInt8.ofNat (48 + u % 10)] := by rw [Lib.decDigits, dif_neg h]
theorem dec_num : ∀ (n u : Nat), u ≤ n → numF (Lib.decDigits u) 0 = u
  | 0, u, h => by rw [dec_small (by omega)]; show 10 * 0 + ((UInt8.ofNat (48 + u)).toNat - 48) = u; rw [dig_of (by omega)]; omega
  | n + 1, u, h => by
    by_cases hu : u < 10
    · rw [dec_small hu]; show 10 * 0 + ((UInt8.ofNat (48 + u)).toNat - 48) = u; rw [dig_of hu]; omega
    · rw [dec_big hu, numF_snoc, dec_num n (u / 10) (by omega), dig_of (by omega)]; omega
theorem dec_canon : ∀ (n u : Nat), u ≤ n → canonL (Lib.decDigits u) ∧ (0 < u → (Lib.decDigits u).head? ≠ some 48)
  | n, u, h => by
    by_cases hu : u < 10
    · rw [dec_small hu]
      refine ⟨⟨by simp, fun c hc => by rw [List.mem_singleton.1 hc]; exact digB8_of hu, fun h => by simp at h⟩, fun h0 h1 => ?_⟩
      have h1 : UInt8.ofNat (48 + u) = 48 := by simpa using h1
      have := congrArg UInt8.toNat h1
      rw [dig_of hu] at this
      have e : (48 : UInt8).toNat = 48 := rfl
      omega
    · match n with
      | 0 => omega
      | n + 1 =>
        obtain ⟨⟨a1, a2, a3⟩, a4⟩ := dec_canon n (u / 10) (by omega)
        rw [dec_big hu]
        have hh : (Lib.decDigits (u / 10) ++ [UInt8.ofNat (48 + u % 10)]).head? = (Lib.decDigits (u / 10)).head? := by
          cases hd : Lib.decDigits (u / 10) with
          | nil => exact absurd hd a1
          | cons x l => rfl
        refine ⟨⟨by simp, fun c hc => ?_, fun _ => by rw [hh]; exact a4 (by omega)⟩, fun _ => by rw [hh]; exact a4 (by omega)⟩
        rcases List.mem_append.1 hc with hc | hc
        · exact a2 c hc
        · rw [List.mem_singleton.1 hc]; exact digB8_of (by omega)
theorem canon_dec : ∀ (n : Nat) (l : List UInt8), l.length ≤ n → canonL l → Lib.decDigits (numF l 0) = l
  | 0, l, h, hc => absurd (List.eq_nil_of_length_eq_zero (by omega)) hc.1
  | n + 1, l, h, hc => by
    obtain ⟨h1, h2, h3⟩ := hc
    rcases List.eq_nil_or_concat l with rfl | ⟨m, c, rfl⟩
    · exact absurd rfl h1
    · rw [List.concat_eq_append] at h h2 h3 ⊢
      have hcd : digB8 c = true := h2 c (by simp)
      have hcr := of_decide_eq_true hcd
      rw [numF_snoc]
      by_cases hm : m = []
      · subst hm
        show Lib.decDigits (10 * 0 + (c.toNat - 48)) = [c]
        rw [dec_small (by omega), show 10 * 0 + (c.toNat - 48) = c.toNat - 48 by omega, dig_back hcd]
      · have hcm : canonL m := by
          refine ⟨hm, fun x hx => h2 x (List.mem_append_left _ hx), fun hl => ?_⟩
          have h4 := h3 (by rw [List.length_append, List.length_singleton]; omega)
          cases m with
          | nil => exact absurd rfl hm
          | cons x m => exact h4
        have ih := canon_dec n m (by rw [List.length_append, List.length_singleton] at h; omega) hcm
        have hpos : 0 < numF m 0 := by
          rcases Nat.eq_zero_or_pos (numF m 0) with h0 | h0
          · exfalso
            rw [h0, dec_small (by omega)] at ih
            rw [← ih] at h3
            exact h3 (by simp) rfl
          · exact h0
        rw [dec_big (by omega), show (10 * numF m 0 + (c.toNat - 48)) / 10 = numF m 0 by omega, ih, show (10 * numF m 0 + (c.toNat - 48)) % 10 = c.toNat - 48 by omega, dig_back hcd]
theorem dec_len : ∀ (k u : Nat), (Lib.decDigits u).length ≤ k + 1 ↔ u < 10 ^ (k + 1)
  | 0, u => by
    by_cases hu : u < 10
    · rw [dec_small hu]; simp; omega
    · rw [dec_big hu]
      have := (dec_canon _ (u / 10) (Nat.le_refl _)).1.1
      have h2 := List.length_pos_iff.2 this
      rw [List.length_append, List.length_singleton]
      constructor
      · intro h; omega
      · intro h; simp at h; omega
  | k + 1, u => by
    by_cases hu : u < 10
    · rw [dec_small hu]
      have : 10 ^ 1 ≤ 10 ^ (k + 1 + 1) := Nat.pow_le_pow_right (by decide) (by omega)
      simp; omega
    · rw [dec_big hu, List.length_append, List.length_singleton]
      have ih := dec_len k (u / 10)
      have e : 10 ^ (k + 1 + 1) = 10 * 10 ^ (k + 1) := by rw [Nat.pow_succ, Nat.mul_comm]
      rw [e]
      constructor
      · intro h; have := ih.1 (by omega); omega
      · intro h; have := ih.2 (by omega); omega
/-! strconv.Atoi -/
theorem parse_ok : ∀ (l : List UInt8) (k a : Nat), (∀ c ∈ l, digB8 c = true) → a < 10 ^ k → k + l.length ≤ 18 → Lib.parseUint10 a l = .ok (numF l a)
  | [], _, _, _, _, _ => rfl
  | c :: l, k, a, hd, ha, hk => by
    have hc := of_decide_eq_true (hd c (List.mem_cons_self ..))
    have e : 10 ^ (k + 1) = 10 * 10 ^ k := by rw [Nat.pow_succ, Nat.mul_comm]
    have hp : 10 ^ (k + 1) ≤ 10 ^ 18 := Nat.pow_le_pow_right (by decide) (by rw [List.length_cons] at hk; omega)
    have hp2 : (10 : Nat) ^ 18 = 1000000000000000000 := by decide
    rw [Lib.parseUint10, if_pos hc, if_neg (by omega), if_neg (by omega)]
    rw [parse_ok l (k + 1) (a * 10 + (c.toNat - 48)) (fun x hx => hd x (List.mem_cons_of_mem _ hx)) (by omega) (by rw [List.length_cons] at hk; omega)]
    show Lib.NumEnd.ok (numF l _) = .ok (numF l (10 * a + (c.toNat - 48)))
    rw [Nat.mul_comm a 10]
theorem atoi_digits {l : List UInt8} (h : canonL l) (hk : l.length ≤ 18) : Lib.atoiAll l = .ok ((numF l 0 : Nat) : Int) := by
  obtain ⟨h1, h2, _⟩ := h
  cases l with
  | nil => exact absurd rfl h1
  | cons c r =>
    have hc := of_decide_eq_true (h2 c (List.mem_cons_self ..))
    have hp := parse_ok (c :: r) 0 0 h2 (by decide) (by omega)
    unfold Lib.atoiAll
    dsimp only
    rw [if_neg (by omega)]
    unfold Lib.parseMag
    rw [if_neg (by simp), hp]
    dsimp only
    have hlt : numF (c :: r) 0 < 10 ^ 18 := by
      have key : ∀ (l : List UInt8) (k a : Nat), (∀ c ∈ l, digB8 c = true) → a < 10 ^ k → numF l a < 10 ^ (k + l.length) := by
        intro l
        induction l with
        | nil => intro k a _ ha; exact ha
        | cons x l ih =>
          intro k a hd ha
          have hx := of_decide_eq_true (hd x (List.mem_cons_self ..))
          have e : 10 ^ (k + 1) = 10 * 10 ^ k := by rw [Nat.pow_succ, Nat.mul_comm]
          have := ih (k + 1) (10 * a + (x.toNat - 48)) (fun y hy => hd y (List.mem_cons_of_mem _ hy)) (by omega)
          rw [List.length_cons, show k + (l.length + 1) = k + 1 + l.length by omega]
          exact this
      have h3 := key (c :: r) 0 0 h2 (by decide)
      have h4 : 10 ^ (0 + (c :: r).length) ≤ 10 ^ 18 := Nat.pow_le_pow_right (by decide) (by omega)
      omega
    have hp2 : (10 : Nat) ^ 18 = 1000000000000000000 := by decide
    rw [if_neg (by omega), if_neg (by omega), if_neg (by omega)]
/-- What 'read' returns. -/
def readP (s : ByteArray) : Int := match Lib.atoiAll (bl s) with | .ok v => if s.size ≤ 18 then v else -1 | _ => -1
theorem readP_canon {s : ByteArray} (h : canonL (bl s)) (hk : s.size ≤ 18) : readP s = ((numF (bl s) 0 : Nat) : Int) := by
  unfold readP
  rw [atoi_digits h (by rw [bl_len]; exact hk)]
  dsimp only
  rw [if_pos hk]
theorem readP_size {s : ByteArray} (h : 0 ≤ readP s) : s.size ≤ 18 := by
  unfold readP at h
  split at h
  · split at h
    · assumption
    · omega
  · omega
theorem itoaS_nat (u : Nat) : itoaS (u : Int) = ⟨(Lib.decDigits u).toArray⟩ := by
  unfold itoaS Lib.itoa; rw [if_neg (by omega), Int.toNat_natCast]
theorem itoaS_nn {n : Int} (h : 0 ≤ n) : bl (itoaS n) = Lib.decDigits n.toNat := by
  unfold itoaS Lib.itoa; rw [if_neg (by omega)]; rfl
theorem itoa_canon {n : Int} (h : 0 ≤ n) : canonL (bl (itoaS n)) := by rw [itoaS_nn h]; exact (dec_canon _ _ (Nat.le_refl _)).1
theorem itoa_num {n : Int} (h : 0 ≤ n) : ((numF (bl (itoaS n)) 0 : Nat) : Int) = n := by rw [itoaS_nn h, dec_num _ _ (Nat.le_refl _)]; omega
theorem itoa_sz {n : Int} (h : 0 ≤ n) (k : Nat) : (itoaS n).size ≤ k + 1 ↔ n < 10 ^ (k + 1) := by
  rw [← bl_len, itoaS_nn h, dec_len]
  constructor
  · intro h2
    have h3 : ((n.toNat : Nat) : Int) < ((10 ^ (k + 1) : Nat) : Int) := Int.ofNat_lt.2 h2
    rw [Int.toNat_of_nonneg h] at h3
    simpa using h3
  · intro h2
    have h3 : ((n.toNat : Nat) : Int) < ((10 ^ (k + 1) : Nat) : Int) := by rw [Int.toNat_of_nonneg h]; simpa using h2
    exact Int.ofNat_lt.1 h3
theorem canon_itoa {s : ByteArray} (h : canonL (bl s)) : itoaS ((numF (bl s) 0 : Nat) : Int) = s := by
  rw [itoaS_nat, canon_dec _ _ (Nat.le_refl _) h, bl_str]
theorem readP_itoa {n : Int} (h : 0 ≤ n) (h2 : n < 1000000000000000000) : readP (itoaS n) = n := by
  rw [readP_canon (itoa_canon h) ((itoa_sz h 17).2 (by have : (10 : Int) ^ (17 + 1) = 1000000000000000000 := by decide
                                                       omega)), itoa_num h]
/-- The reference's numbers. -/
def valP (s : ByteArray) (most : Nat) : Int × Bool := if canonL (bl s) ∧ s.size ≤ most then (((numF (bl s) 0 : Nat) : Int), true) else (0, false)
theorem valP_itoa {n : Int} (h : 0 ≤ n) (k : Nat) (h2 : n < 10 ^ (k + 1)) : valP (itoaS n) (k + 1) = (n, true) := by
  unfold valP; rw [if_pos ⟨itoa_canon h, (itoa_sz h k).2 h2⟩, itoa_num h]
theorem valP_ok {s : ByteArray} {m : Nat} (h : (valP s m).2 = true) : itoaS (valP s m).1 = s ∧ 0 ≤ (valP s m).1 ∧ s.size ≤ m ∧ canonL (bl s) := by
  unfold valP at h ⊢
  split
  · rename_i hc; exact ⟨canon_itoa hc.1, Int.natCast_nonneg _, hc.2, hc.1⟩
  · rename_i hc; rw [if_neg hc] at h; cases h
/-! strings.Split at a colon -/
theorem split_none {e : ByteArray} (h : ∀ c ∈ bl e, c ≠ 58) : splitC e = [e] := by
  unfold splitC
  have : Lib.countB e colon = 0 := by
    show Lib.count (bl e) [58] = 0
    rw [Lib.count_one, List.count_eq_zero]
    exact fun hc => h 58 hc rfl
  rw [this, Lib.splitB_zero]
theorem bl_app (a b : ByteArray) : bl (a ++ b) = bl a ++ bl b := by
  unfold bl; rw [ByteArray.data_append, Array.toList_append]
theorem ext_app_l (a b : ByteArray) : (a ++ b).extract 0 a.size = a := by
  have : bl ((a ++ b).extract 0 a.size) = bl a := by
    show ((a ++ b).extract 0 a.size).data.toList = _
    rw [ByteArray.data_extract, Array.toList_extract, List.extract_eq_take_drop]
    show ((bl (a ++ b)).drop 0).take (a.size - 0) = _
    rw [bl_app, List.drop_zero, Nat.sub_zero, ← bl_len a, List.take_left]
  rw [← bl_str ((a ++ b).extract 0 a.size), this, bl_str]
theorem ext_app_r (a b : ByteArray) : (a ++ b).extract a.size (a ++ b).size = b := by
  have : bl ((a ++ b).extract a.size (a ++ b).size) = bl b := by
    show ((a ++ b).extract a.size (a ++ b).size).data.toList = _
    rw [ByteArray.data_extract, Array.toList_extract, List.extract_eq_take_drop]
    show ((bl (a ++ b)).drop a.size).take _ = _
    rw [bl_app, ← bl_len a, List.drop_left, ByteArray.size_append, ← bl_len a, ← bl_len b, Nat.add_sub_cancel_left, List.take_length]
  rw [← bl_str ((a ++ b).extract a.size (a ++ b).size), this, bl_str]
theorem idx_byte : ∀ (a b : List UInt8) (x : UInt8), (∀ c ∈ a, c ≠ x) → Lib.indexByte (a ++ x :: b) x = (a.length : Nat)
  | [], b, x, _ => by show Lib.indexByte (x :: b) x = 0; unfold Lib.indexByte; rw [if_pos (by simp)]
  | y :: a, b, x, h => by
    have ih := idx_byte a b x (fun c hc => h c (List.mem_cons_of_mem _ hc))
    have hy := h y (List.mem_cons_self ..)
    show Lib.indexByte (y :: (a ++ x :: b)) x = _
    unfold Lib.indexByte
    rw [if_neg (by simpa using hy), ih, if_neg (by simp), List.length_cons]
    omega
theorem idx_sep (a b : ByteArray) (x : UInt8) (h : ∀ c ∈ bl a, c ≠ x) : Lib.indexB ((a ++ ⟨#[x]⟩) ++ b) ⟨#[x]⟩ = (a.size : Nat) := by
  show Lib.index (bl ((a ++ ⟨#[x]⟩) ++ b)) [x] = _
  rw [Lib.index_one, bl_app, bl_app, List.append_assoc]
  show Lib.indexByte (bl a ++ x :: bl b) x = _
  rw [idx_byte _ _ _ h, bl_len]
theorem split_one {a b : ByteArray} (ha : ∀ c ∈ bl a, c ≠ 58) (hb : ∀ c ∈ bl b, c ≠ 58) : splitC ((a ++ ⟨#[58]⟩) ++ b) = [a, b] := by
  unfold splitC
  have : Lib.countB ((a ++ ⟨#[58]⟩) ++ b) colon = 1 := by
    show Lib.count (bl ((a ++ ⟨#[58]⟩) ++ b)) [58] = 1
    rw [Lib.count_one, bl_app, bl_app, List.count_append, List.count_append, List.count_eq_zero.2 (fun hc => ha 58 hc rfl), List.count_eq_zero.2 (fun hc => hb 58 hc rfl)]
    rfl
  rw [this, Lib.splitB_hit colon 0 0 _ a.size (idx_sep a b 58 ha), Lib.splitB_zero]
  have e1 : colon.size = 1 := rfl
  have e2 : a.size + colon.size = (a ++ (⟨#[58]⟩ : ByteArray)).size := by rw [ByteArray.size_append, e1]; rfl
  rw [e2, ext_app_r, Nat.add_zero, ByteArray.append_assoc, ext_app_l]
theorem dig_ne {c x : UInt8} (h : digB8 c = true) (hx : x.toNat < 48 ∨ 57 < x.toNat) : c ≠ x := fun e => by
  have := of_decide_eq_true h
  rw [e] at this; omega
theorem itoa_ne {n : Int} (h : 0 ≤ n) {x : UInt8} (hx : x.toNat < 48 ∨ 57 < x.toNat) : ∀ c ∈ bl (itoaS n), c ≠ x := fun c hc => dig_ne ((itoa_canon h).2.1 c hc) hx
end Go.PK

/- Of the proofs of YtbamklefagghcaaGreatDoor; see NOTES.md. -/
/-! Orders and invoices: the plain functions. -/
namespace Go.PK
open Go Go.RowKit
set_option linter.unusedVariables false
def Ord.okA (o : Ord) : Prop := o.ok ∧ in64 o.prom ∧ in64 o.paid ∧ in64 o.st
def tyOrd : Ty Ord where
  size := 9
  rd := fun _ _ cs o => cs = o.cells ∧ o.okA
  len := fun h => by rw [h.1]; rfl
  keep := fun h _ => h
theorem ord_at {D : Nat → Prop} {w : World} {A : Option Addr} {l c : Nat} {xs : List Ord} (h : sliceRd tyOrd D w (.slice A l c) xs) {k : Nat} (hk : k < xs.length) :
    ∃ b off, A = some ⟨b, off, none⟩ ∧ D b ∧ (∀ i (hi : i < 9), w.cell? ⟨b, off + k * 9 + i, none⟩ = some (xs[k].cells[i]'hi)) ∧ xs[k].okA := by
  obtain ⟨A', c', e, h1, h2, h3⟩ := h
  injection e with e1 e2 e3
  subst e1 e2 e3
  obtain ⟨b, off, rfl, hD, hb, hc⟩ := h3 (by omega)
  obtain ⟨cs, hcs, rfl, hok⟩ := hc k hk
  exact ⟨b, off, rfl, hD, fun i hi => hcs i hi, hok⟩
/-- A component of a segment, as text. -/
def txO (l : List Seg) (n e c : Nat) : Option ByteArray := ((l[n]?).bind fun x => x.els[e]?).bind fun y => y[c]?
def txt (l : List Seg) (n e c : Nat) : ByteArray := (txO l n e c).getD ⟨#[]⟩
def atP (l : List Seg) (n e c : Nat) : Int × Bool := match txO l n e c with | some s => valP s 9 | none => (0, false)
def cutD (s : ByteArray) : ByteArray × ByteArray × Bool := (⟨(Lib.cut (bl s) [46]).1.toArray⟩, ⟨(Lib.cut (bl s) [46]).2.1.toArray⟩, (Lib.cut (bl s) [46]).2.2)
def recS (s : ByteArray) : Int × Int := (readP (cutD s).1, readP (cutD s).2.1)
def rrecS (s : ByteArray) : (Int × Int) × Bool := if (cutD s).2.2 then (((valP (cutD s).1 9).1, (valP (cutD s).2.1 9).1), (valP (cutD s).1 9).2 && (valP (cutD s).2.1 9).2) else ((0, 0), false)
def rrec (l : List Seg) (n : Nat) : (Int × Int) × Bool := match (l[n]?).bind (fun x => x.els[2]?) with | none => ((0, 0), false) | some y => match y[0]? with | none => ((0, 0), false) | some s => rrecS s
theorem cut_at {s : ByteArray} {k : Nat} (hk : k < s.size) (h1 : ∀ j, j < k → byteAt s j ≠ 46) (h2 : byteAt s k = 46) : cutD s = (s.extract 0 k, s.extract (k + 1) s.size, true) := by
  have hi : Lib.index (bl s) [46] = (k : Nat) := by
    have e : bl s = (bl s).take k ++ 46 :: (bl s).drop (k + 1) := by
      rw [← h2, ← bl_get (by rw [bl_len]; exact hk), List.getElem_cons_drop, List.take_append_drop]
    rw [Lib.index_one, e, idx_byte _ _ _ (fun c hc => ?_), List.length_take, bl_len]
    · congr 1; omega
    · obtain ⟨j, hj, rfl⟩ := List.getElem_of_mem hc
      rw [List.length_take, bl_len] at hj
      rw [List.getElem_take, bl_get]
      exact h1 j (by omega)
  have e1 : ∀ a b, bl (s.extract a b) = ((bl s).drop a).take (b - a) := fun a b => by
    show (s.extract a b).data.toList = _
    rw [ByteArray.data_extract, Array.toList_extract, List.extract_eq_take_drop]; rfl
  unfold cutD Lib.cut
  rw [hi]
  simp only [show ((k : Nat) : Int) ≥ 0 from Int.natCast_nonneg k, if_true, Int.toNat_natCast]
  refine Prod.ext ?_ (Prod.ext ?_ ?_)
  · show (⟨_⟩ : ByteArray) = s.extract 0 k
    rw [← bl_str (s.extract 0 k), e1]
    simp
  · show (⟨_⟩ : ByteArray) = s.extract (k + 1) s.size
    rw [← bl_str (s.extract (k + 1) s.size), e1, List.take_of_length_le (by rw [List.length_drop, bl_len]; exact Nat.le_refl _)]
    simp
  · simp
theorem cut_no {s : ByteArray} (h : ∀ j, j < s.size → byteAt s j ≠ 46) : (cutD s).2.2 = false := by
  have hi : Lib.index (bl s) [46] = -1 := by
    rcases Lib.index_spec (bl s) [46] with h1 | ⟨i, h1, h2, h3⟩
    · exact h1.1
    · exfalso
      rw [Lib.index_one] at h1
      obtain ⟨h4, _⟩ := Lib.indexByte_some h1
      obtain ⟨hl, h5⟩ := List.getElem?_eq_some_iff.1 h4
      rw [bl_get hl] at h5
      exact h i (by rw [bl_len] at hl; exact hl) h5
  unfold cutD Lib.cut
  rw [hi]
  simp
def mkO (id fund : Int) (r : Int × Int) (copies price : Int) : Ord := ⟨id, fund, r.1, r.2, copies, price, 0, 0, 0⟩
def zeroO : Ord := ⟨0, 0, 0, 0, 0, 0, 0, 0, 0⟩
def recT (s n : Int) : ByteArray := (itoaS s ++ ⟨#[46]⟩) ++ itoaS n
def tU : ByteArray := ⟨#[85, 78, 72]⟩
def orderX (o : Ord) : List Seg :=
  [⟨⟨#[85, 78, 72]⟩, [[⟨#[49]⟩], [⟨#[79, 82, 68, 69, 82, 83]⟩, ⟨#[68]⟩, ⟨#[57, 54, 65]⟩, ⟨#[85, 78]⟩]]⟩,
   ⟨⟨#[66, 71, 77]⟩, [[⟨#[50, 50, 48]⟩], [itoaS o.id]]⟩,
   ⟨⟨#[76, 73, 78]⟩, [[itoaS 1], [⟨#[]⟩], [recT o.src o.num, ⟨#[83, 82, 86]⟩]]⟩,
   ⟨⟨#[81, 84, 89]⟩, [[⟨#[50, 49]⟩, itoaS o.copies]]⟩,
   ⟨⟨#[80, 82, 73]⟩, [[⟨#[65, 65, 65]⟩, itoaS o.price]]⟩,
   ⟨⟨#[82, 70, 70]⟩, [[⟨#[66, 70, 78]⟩, itoaS o.fund]]⟩,
   ⟨⟨#[85, 78, 84]⟩, [[⟨#[55]⟩], [⟨#[49]⟩]]⟩]
def nnO (o : Ord) : Prop := 0 ≤ o.id ∧ 0 ≤ o.fund ∧ 0 ≤ o.src ∧ 0 ≤ o.num ∧ 0 ≤ o.copies ∧ 0 ≤ o.price
def wrO (o : Ord) : Prop := (1 ≤ o.id ∧ o.id ≤ 999999999) ∧ (1 ≤ o.fund ∧ o.fund ≤ 999999999) ∧ (0 ≤ o.src ∧ o.src ≤ 999999999) ∧ (0 ≤ o.num ∧ o.num ≤ 999999999) ∧ (0 ≤ o.price ∧ o.price ≤ 999999999) ∧ (1 ≤ o.copies ∧ o.copies ≤ 9999)
instance (o : Ord) : Decidable (wrO o) := by unfold wrO; infer_instance
theorem writB_iff (o : Ord) : writB o = true ↔ wrO o := by
  unfold writB wi wrO
  simp only [List.any_cons, List.any_nil, Bool.or_false, Bool.and_eq_true, Bool.not_eq_true', Bool.or_eq_false_iff, decide_eq_false_iff_not]
  omega
theorem wrO_nn {o : Ord} (h : wrO o) : nnO o := by unfold wrO at h; unfold nnO; omega
theorem p3 (a b c : UInt8) (s : ByteArray) : (⟨#[a, b, c]⟩ : ByteArray) ++ s = ((⟨#[a, b]⟩ : ByteArray) ++ ⟨#[c]⟩) ++ s := rfl
theorem p4 (a b c d : UInt8) (s : ByteArray) : (⟨#[a, b, c, d]⟩ : ByteArray) ++ s = ((⟨#[a, b, c]⟩ : ByteArray) ++ ⟨#[d]⟩) ++ s := rfl
theorem c58 : ((58 : UInt8).toNat < 48 ∨ 57 < (58 : UInt8).toNat) := .inr (by decide)
theorem c46 : ((46 : UInt8).toNat < 48 ∨ 57 < (46 : UInt8).toNat) := .inl (by decide)
theorem recT_ne {s n : Int} (h1 : 0 ≤ s) (h2 : 0 ≤ n) : ∀ c ∈ bl (recT s n), c ≠ 58 := by
  intro c hc
  unfold recT at hc
  rw [bl_app, bl_app] at hc
  rcases List.mem_append.1 hc with hc | hc
  · rcases List.mem_append.1 hc with hc | hc
    · exact itoa_ne h1 c58 c hc
    · have : c = 46 := by simpa [bl] using hc
      rw [this]; decide
  · exact itoa_ne h2 c58 c hc
theorem art_split {s n : Int} (h1 : 0 ≤ s) (h2 : 0 ≤ n) : splitC (artS s n) = [recT s n, ⟨#[83, 82, 86]⟩] := by
  have e : artS s n = (recT s n ++ ⟨#[58]⟩) ++ ⟨#[83, 82, 86]⟩ := by
    rw [ByteArray.append_assoc]; rfl
  rw [e, split_one (recT_ne h1 h2) (by decide)]
theorem pre3 {a b : UInt8} {n : Int} (h : 0 ≤ n) (ha : a ≠ 58) (hb : b ≠ 58) : splitC ((⟨#[a, b, 58]⟩ : ByteArray) ++ itoaS n) = [⟨#[a, b]⟩, itoaS n] := by
  rw [p3, split_one (fun c hc => by
    have : c = a ∨ c = b := by simpa [bl] using hc
    rcases this with rfl | rfl <;> assumption) (itoa_ne h c58)]
theorem pre4 {a b d : UInt8} {n : Int} (h : 0 ≤ n) (ha : a ≠ 58) (hb : b ≠ 58) (hd : d ≠ 58) : splitC ((⟨#[a, b, d, 58]⟩ : ByteArray) ++ itoaS n) = [⟨#[a, b, d]⟩, itoaS n] := by
  rw [p4, split_one (fun c hc => by
    have : c = a ∨ c = b ∨ c = d := by simpa [bl] using hc
    rcases this with rfl | rfl | rfl <;> assumption) (itoa_ne h c58)]
theorem itoa_one : itoaS 1 = ⟨#[49]⟩ := by decide +kernel
theorem orderP_X {o : Ord} (h : nnO o) : orderP o = orderX o := by
  obtain ⟨h1, h2, h3, h4, h5, h6⟩ := h
  unfold orderP orderX
  rw [split_none (itoa_ne h1 c58), art_split h3 h4, pre3 h5 (by decide) (by decide), pre4 h6 (by decide) (by decide) (by decide), pre4 h2 (by decide) (by decide) (by decide), itoa_one]
  congr 1
theorem recS_T {s n : Int} (h1 : 0 ≤ s) (h2 : 0 ≤ n) : cutD (recT s n) = (itoaS s, itoaS n, true) := by
  have hsz : (recT s n).size = (itoaS s).size + 1 + (itoaS n).size := by unfold recT; rw [ByteArray.size_append, ByteArray.size_append]; rfl
  have hb : bl (recT s n) = bl (itoaS s) ++ 46 :: bl (itoaS n) := by unfold recT; rw [bl_app, bl_app, List.append_assoc]; rfl
  have hat : ∀ j, byteAt (recT s n) j = (bl (itoaS s) ++ 46 :: bl (itoaS n)).getD j 0 := fun j => by rw [← hb]; rfl
  rw [cut_at (k := (itoaS s).size) (by omega) (fun j hj => ?_) (by rw [hat, ← bl_len, List.getD_eq_getElem?_getD, List.getElem?_append_right (Nat.le_refl _), Nat.sub_self]; rfl)]
  · refine Prod.ext ?_ (Prod.ext ?_ rfl)
    · show (recT s n).extract 0 (itoaS s).size = _
      unfold recT; rw [ByteArray.append_assoc]; exact ext_app_l _ _
    · show (recT s n).extract ((itoaS s).size + 1) (recT s n).size = _
      have e : (itoaS s).size + 1 = (itoaS s ++ (⟨#[46]⟩ : ByteArray)).size := by rw [ByteArray.size_append]; rfl
      rw [e]; exact ext_app_r _ _
  · rw [hat, List.getD_eq_getElem?_getD, List.getElem?_append_left (by rw [bl_len]; exact hj), List.getElem?_eq_getElem (by rw [bl_len]; exact hj)]
    exact itoa_ne h1 c46 _ (List.getElem_mem _)
/-- What an order's segments are read as, by the program. -/
def rdE (l : List Seg) : Ord := mkO (readP (txt l 1 1 0)) (readP (txt l 5 0 1)) (recS (txt l 2 2 0)) (readP (txt l 3 0 1)) (readP (txt l 4 0 1))
def rdO (l : List Seg) : Ord × Int := if wrO (rdE l) ∧ orderP (rdE l) = l then (rdE l, 0) else (zeroO, 11)
def rdR (l : List Seg) : Ord := mkO (atP l 1 1 0).1 (atP l 5 0 1).1 (rrec l 2).1 (atP l 3 0 1).1 (atP l 4 0 1).1
def rrO (l : List Seg) : Ord × Int := if ((((rrec l 2).2 = true ∧ (atP l 1 1 0).2 = true) ∧ (atP l 3 0 1).2 = true) ∧ (atP l 4 0 1).2 = true) ∧ (atP l 5 0 1).2 = true ∧ wrO (rdR l) ∧ orderX (rdR l) = l then (rdR l, 0) else (zeroO, 11)
theorem val9 {n : Int} (h : 0 ≤ n) (h2 : n ≤ 999999999) : valP (itoaS n) 9 = (n, true) := by
  have e : (10 : Int) ^ (8 + 1) = 1000000000 := by decide
  exact valP_itoa h 8 (by omega)
theorem read9 {n : Int} (h : 0 ≤ n) (h2 : n ≤ 999999999) : readP (itoaS n) = n := readP_itoa h (by omega)
def normO (o : Ord) : Ord := { o with prom := 0, paid := 0, st := 0 }
theorem rd_of {o : Ord} (h : wrO o) : rdE (orderX o) = normO o ∧ rdR (orderX o) = normO o ∧ (rrec (orderX o) 2).2 = true ∧ (atP (orderX o) 1 1 0).2 = true ∧ (atP (orderX o) 3 0 1).2 = true ∧ (atP (orderX o) 4 0 1).2 = true ∧ (atP (orderX o) 5 0 1).2 = true := by
  obtain ⟨⟨a1, a2⟩, ⟨b1, b2⟩, ⟨c1, c2⟩, ⟨d1, d2⟩, ⟨e1, e2⟩, ⟨f1, f2⟩⟩ := h
  have t1 : txO (orderX o) 1 1 0 = some (itoaS o.id) := rfl
  have t2 : txO (orderX o) 2 2 0 = some (recT o.src o.num) := rfl
  have t3 : txO (orderX o) 3 0 1 = some (itoaS o.copies) := rfl
  have t4 : txO (orderX o) 4 0 1 = some (itoaS o.price) := rfl
  have t5 : txO (orderX o) 5 0 1 = some (itoaS o.fund) := rfl
  have hr : rrec (orderX o) 2 = rrecS (recT o.src o.num) := rfl
  have hr2 : rrecS (recT o.src o.num) = ((o.src, o.num), true) := by
    unfold rrecS; rw [recS_T c1 d1]; simp only [if_true, val9 c1 c2, val9 d1 d2]; rfl
  unfold rdE rdR atP txt
  rw [hr, hr2, t1, t2, t3, t4, t5]
  simp only [Option.getD_some, val9 (show 0 ≤ o.id by omega) a2, val9 (show 0 ≤ o.fund by omega) b2, val9 (show 0 ≤ o.copies by omega) (show o.copies ≤ 999999999 by omega), val9 e1 e2, read9 (show 0 ≤ o.id by omega) a2, read9 (show 0 ≤ o.fund by omega) b2, read9 (show 0 ≤ o.copies by omega) (show o.copies ≤ 999999999 by omega), read9 e1 e2]
  refine ⟨?_, ?_, trivial, trivial, trivial, trivial, trivial⟩
  · unfold recS; rw [recS_T c1 d1]; simp only [read9 c1 c2, read9 d1 d2]; rfl
  · rfl
theorem rdO_of {o : Ord} (h : wrO o) : rdO (orderX o) = (normO o, 0) ∧ rrO (orderX o) = (normO o, 0) := by
  obtain ⟨h1, h2, h3, h4, h5, h6, h7⟩ := rd_of h
  have hw : wrO (normO o) := h
  unfold rdO rrO
  rw [h1, h2]
  rw [if_pos ⟨hw, by rw [orderP_X (wrO_nn hw)]; rfl⟩, if_pos ⟨⟨⟨⟨h3, h4⟩, h5⟩, h6⟩, h7, hw, rfl⟩]
  exact ⟨rfl, rfl⟩
/-- The program's reading is the reference's. -/
theorem rd_eq (l : List Seg) : rdO l = rrO l := by
  by_cases h1 : wrO (rdE l) ∧ orderP (rdE l) = l
  · have e : l = orderX (rdE l) := by rw [← orderP_X (wrO_nn h1.1)]; exact h1.2.symm
    generalize rdE l = o at h1 e
    subst e
    rw [(rdO_of h1.1).1, (rdO_of h1.1).2]
  · by_cases h2 : wrO (rdR l) ∧ orderX (rdR l) = l
    · exfalso
      have e : l = orderX (rdR l) := h2.2.symm
      apply h1
      generalize rdR l = o at h2 e
      subst e
      rw [(rd_of h2.1).1]
      exact ⟨h2.1, by rw [orderP_X (wrO_nn (show wrO (normO o) from h2.1))]; rfl⟩
    · unfold rdO rrO
      rw [if_neg h1, if_neg (fun h => h2 h.2.2)]
end Go.PK

/- Of the proofs of YtbamklefagghcaaGreatDoor; see NOTES.md. -/
/-! Comparisons with nil; small arithmetic on bytes. -/
namespace Go.PK
open Go Go.RowKit
set_option linter.unusedVariables false
section
variable {P : Program} {n : Nat} {l : List (Nat × Value)} {own : List (Nat × Obj)} {ro : List Snap} {ty t t' : TypeId} {x y : Operand} {k k' : IntKind} {a b : Int}
def isIface (v : Value) (b : Bool) : Prop := (v = .nilIface ∧ b = false) ∨ (∃ d u, v = .iface d u) ∧ b = true
theorem v_ine {td : TypeDesc} {v : Value} {b : Bool} (ht : P.underlying t = some td) (hi : (match td with | .interface _ => true | _ => false) = true) (hx : ev l x = some v) (hv : isIface v b) : OpV P n l own ro (.binOp .neq t x (.const .nilIface) t') ty (.bool b) := by
  intro A w o ha _ ho _
  have e : A.eval (.const .nilIface) = .nilIface := rfl
  cases td <;> simp at hi
  rcases hv with ⟨rfl, rfl⟩ | ⟨⟨d, u, rfl⟩, rfl⟩
  · have h : ∀ d : Nat, (Op.equalIn (d + 1) t .nilIface .nilIface).run P w = .ok true w := fun d => by simp [Op.equalIn, run_underlying ht]
    have h2 : (Op.equal t .nilIface .nilIface).run P w = .ok true w := h 9999
    simp [execOp, ho, ha.eval hx, e, eqGuard, binOp, h2]
  · have h : ∀ q : Nat, (Op.equalIn (q + 1) t (.iface d u) .nilIface).run P w = .ok false w := fun q => by simp [Op.equalIn, run_underlying ht]
    have h2 : (Op.equal t (.iface d u) .nilIface).run P w = .ok false w := h 9999
    simp [execOp, ho, ha.eval hx, e, eqGuard, binOp, h2]
theorem v_sliceNil {e : TypeId} {A : Option Addr} {m c : Nat} (ht : P.underlying t = some (.slice e)) (hx : ev l x = some (.slice A m c)) : OpV P n l own ro (.binOp .eql t x (.const (.slice none 0 0)) t') ty (.bool A.isNone) := by
  intro a w o ha _ ho _
  have e0 : a.eval (.const (.slice none 0 0)) = .slice none 0 0 := rfl
  have h : ∀ d : Nat, (Op.equalIn (d + 1) t (.slice A m c) (.slice none 0 0)).run P w = .ok A.isNone w := fun d => by
    cases A <;> simp [Op.equalIn, run_underlying ht]
  have h2 : (Op.equal t (.slice A m c) (.slice none 0 0)).run P w = .ok A.isNone w := h 9999
  simp [execOp, ho, ha.eval hx, e0, eqGuard, binOp, h2]
theorem v_subU8 {a b : Nat} (hx : ev l x = some (.int .u8 (a : Nat))) (hy : ev l y = some (.int .u8 (b : Nat))) (h : b ≤ a) (h2 : a < 256) : OpV P n l own ro (.binOp .sub t x y t') ty (.int .u8 ((a - b : Nat) : Int)) := by
  have h3 := v_sub (P := P) (n := n) (own := own) (ro := ro) (ty := ty) (t := t) (t' := t') hx hy
  rw [IntKind.wrap_u8, show ((a : Int) - (b : Int)) % 256 = ((a - b : Nat) : Int) by omega] at h3
  exact h3
/-- 'byte(z)' of a number that is one. -/
theorem v_convU8 {td : TypeDesc} {c : Nat} (hs : P.underlying t = some td) (hd : P.underlying t' = some (.int .u8)) (hx : ev l x = some (.int k (c : Nat))) (h : c < 256) : OpV P n l own ro (.convert t t' x) ty (.int .u8 (((UInt8.ofNat c).toNat : Nat) : Int)) := by
  have h3 := v_conv (n := n) (own := own) (ro := ro) (ty := ty) hs hd hx
  rw [IntKind.wrap_u8, show ((c : Nat) : Int) % 256 = ((c : Nat) : Int) by omega] at h3
  rw [UInt8.toNat_ofNat_of_lt' (by show _ < 256; omega)]
  exact h3
end
end Go.PK

/- Of the proofs of YtbamklefagghcaaGreatDoor; see NOTES.md. -/
/-! Components of segments, read; results of which one lies in a cell. -/
namespace Go.PK
open Go Go.RowKit
set_option linter.unusedVariables false
section
variable {P : Program} {n : Nat} {l : List (Nat × Value)} {own : List (Nat × Obj)} {ro : List Snap} {Q : Exit → Act → World → Prop} {K : Act → World → Prop} {R : Ending → World → Prop} {fn : Func}
/-- Two results, the first in a block of the call's own. -/
theorem retct {t u : Tmp} {ty : TypeId} {td : TypeDesc} {b : Nat} {cs : Array Value} {e : TypeId} {fz : Nat × Nat} {v : Value} (hr : fn.results = #[.cell t ty, .tmp u]) (hv : l.lookup t = some (.pointer (some ⟨b, 0, none⟩))) (hu : l.lookup u = some v) (hb : (b, Obj.cells cs e fz) ∈ own)
    (ht : P.underlying ty = some td) (hd : aggT td = true) (hs : (P.info? ty).map (·.size) = some cs.size) (h : ∀ w', Mem w' own ro → R (.returned (.tuple #[.agg cs, v])) w') : S (bodyPost P fn R .ret) n l own ro := by
  intro a w ha hw
  refine ⟨ha.df, _, ?_, h w hw⟩
  have h1 := ha.at_ t _ hv
  have h2 := ha.at_ u _ hu
  rw [results_cell_tmp hr, show a.tmps.getD t undef = .pointer (some ⟨b, 0, none⟩) by simp [Array.getD_eq_getD_getElem?, h1], show a.tmps.getD u undef = v by simp [Array.getD_eq_getD_getElem?, h2]]
  simp [asAddr, run_loadVar_row w b e ty cs fz td (hw.own_at _ hb) ht (by cases td <;> simp_all [aggT]) hs]
end
theorem calls_clp {P : Program} {f : FuncId} {u v : Value} {w : World} {Q : Ending → World → Prop} (h : Calls P f #[u, v] w Q) : Calls P f (#[u, v] ++ #[]) w Q := by simpa using h
def segD (l : List Seg) (n : Nat) : Seg := l.getD n ⟨⟨#[]⟩, []⟩
def elsD (x : List (List ByteArray)) (e : Nat) : List ByteArray := x.getD e []
theorem seg_there {D : Nat → Prop} {w : World} {A : Option Addr} {m c : Nat} {l : List Seg} (h : sliceRd tySeg D w (.slice A m c) l) (n : Nat) :
    ∃ b off EA ec, n < l.length → A = some ⟨b, off, none⟩ ∧ D b ∧ w.cell? ⟨b, off + n * 2, none⟩ = some (.string (segD l n).tag) ∧ w.cell? ⟨b, off + n * 2 + 1, none⟩ = some (.slice EA (segD l n).els.length ec) ∧ okS (segD l n).tag ∧ sliceRd (tySlice tyStr) D w (.slice EA (segD l n).els.length ec) (segD l n).els := by
  by_cases hn : n < l.length
  · obtain ⟨b, o, v, h1, h2, h3, h4, h5, h6⟩ := seg_at h hn
    obtain ⟨EA, ec, rfl, _⟩ := id h6
    exact ⟨b, o, EA, ec, fun _ => by unfold segD; rw [getD_at hn]; exact ⟨h1, h2, h3, h4, h5, h6⟩⟩
  · exact ⟨0, 0, none, 0, fun h => absurd h hn⟩
theorem els_there {D : Nat → Prop} {w : World} {A : Option Addr} {m c : Nat} {x : List (List ByteArray)} {K : Prop} (h : K → sliceRd (tySlice tyStr) D w (.slice A m c) x) (e : Nat) :
    ∃ b off FA fc, K → e < x.length → A = some ⟨b, off, none⟩ ∧ D b ∧ w.cell? ⟨b, off + e, none⟩ = some (.slice FA (elsD x e).length fc) ∧ sliceRd tyStr D w (.slice FA (elsD x e).length fc) (elsD x e) := by
  by_cases hk : K
  · by_cases he : e < x.length
    · obtain ⟨b, o, v, h1, h2, h3, h4⟩ := sl_at (h hk) he
      obtain ⟨FA, fc, rfl, _⟩ := id h4
      exact ⟨b, o, FA, fc, fun _ _ => by unfold elsD; rw [getD_at he]; exact ⟨h1, h2, h3, h4⟩⟩
    · exact ⟨0, 0, none, 0, fun _ h => absurd h he⟩
  · exact ⟨0, 0, none, 0, fun h => absurd h hk⟩
theorem txO_in {l : List Seg} {n e c : Nat} (h1 : n < l.length) (h2 : e < (segD l n).els.length) (h3 : c < (elsD (segD l n).els e).length) : txO l n e c = some ((elsD (segD l n).els e)[c]) := by
  have k1 : l[n]? = some (segD l n) := by unfold segD; rw [getD_at h1, List.getElem?_eq_getElem h1]
  have k2 : (segD l n).els[e]? = some (elsD (segD l n).els e) := by unfold elsD; rw [getD_at h2, List.getElem?_eq_getElem h2]
  unfold txO
  rw [k1]
  simp only [Option.bind_some, k2]
  rw [List.getElem?_eq_getElem h3]
theorem txO_out {l : List Seg} {n e c : Nat} (h : ¬(n < l.length ∧ e < (segD l n).els.length ∧ c < (elsD (segD l n).els e).length)) : txO l n e c = none := by
  unfold txO
  by_cases h1 : n < l.length
  · have k1 : l[n]? = some (segD l n) := by unfold segD; rw [getD_at h1, List.getElem?_eq_getElem h1]
    rw [k1]
    simp only [Option.bind_some]
    by_cases h2 : e < (segD l n).els.length
    · have k2 : (segD l n).els[e]? = some (elsD (segD l n).els e) := by unfold elsD; rw [getD_at h2, List.getElem?_eq_getElem h2]
      rw [k2]
      simp only [Option.bind_some]
      exact List.getElem?_eq_none (by have := fun h3 => h ⟨h1, h2, h3⟩; omega)
    · rw [List.getElem?_eq_none (by omega)]; rfl
  · rw [List.getElem?_eq_none (by omega)]; rfl
theorem rrec_in {l : List Seg} {n : Nat} (h1 : n < l.length) (h2 : 2 < (segD l n).els.length) (h3 : 0 < (elsD (segD l n).els 2).length) : rrec l n = rrecS ((elsD (segD l n).els 2)[0]) := by
  have k1 : l[n]? = some (segD l n) := by unfold segD; rw [getD_at h1, List.getElem?_eq_getElem h1]
  have k2 : (segD l n).els[2]? = some (elsD (segD l n).els 2) := by unfold elsD; rw [getD_at h2, List.getElem?_eq_getElem h2]
  unfold rrec
  rw [k1]
  simp only [Option.bind_some, k2]
  rw [List.getElem?_eq_getElem h3]
theorem rrec_out {l : List Seg} {n : Nat} (h : ¬(n < l.length ∧ 2 < (segD l n).els.length ∧ 0 < (elsD (segD l n).els 2).length)) : rrec l n = ((0, 0), false) := by
  unfold rrec
  by_cases h1 : n < l.length
  · have k1 : l[n]? = some (segD l n) := by unfold segD; rw [getD_at h1, List.getElem?_eq_getElem h1]
    rw [k1]
    simp only [Option.bind_some]
    by_cases h2 : 2 < (segD l n).els.length
    · have k2 : (segD l n).els[2]? = some (elsD (segD l n).els 2) := by unfold elsD; rw [getD_at h2, List.getElem?_eq_getElem h2]
      rw [k2]
      dsimp only
      rw [List.getElem?_eq_none (by have := fun h3 => h ⟨h1, h2, h3⟩; omega)]
    · rw [List.getElem?_eq_none (by omega)]
  · rw [List.getElem?_eq_none (by omega)]; rfl
end Go.PK

/- Of the proofs of YtbamklefagghcaaGreatDoor; see NOTES.md. -/
/-! Orders: what their segments are read as; sizes. -/
namespace Go.PK
open Go Go.RowKit
set_option linter.unusedVariables false
theorem itoa9 {n : Int} (h : 0 ≤ n) (h2 : n ≤ 999999999) : (itoaS n).size ≤ 9 := by
  refine (itoa_sz h 8).2 ?_
  have e : (10 : Int) ^ (8 + 1) = 1000000000 := by decide
  rw [e]; omega
theorem recT9 {s n : Int} (h1 : 0 ≤ s) (h2 : s ≤ 999999999) (h3 : 0 ≤ n) (h4 : n ≤ 999999999) : (recT s n).size ≤ 19 := by
  have e : (recT s n).size = (itoaS s).size + 1 + (itoaS n).size := by unfold recT; rw [ByteArray.size_append, ByteArray.size_append]; rfl
  have := itoa9 h1 h2; have := itoa9 h3 h4; omega
theorem order_big (o : Ord) : ∀ x ∈ orderR o, ∀ y ∈ x.els, ∀ s ∈ y, s.size ≤ 2000000000 := by
  unfold orderR
  by_cases h : writB o = true
  · rw [if_pos h]
    have hw := (writB_iff o).1 h
    rw [orderP_X (wrO_nn hw)]
    obtain ⟨⟨a1, a2⟩, ⟨b1, b2⟩, ⟨c1, c2⟩, ⟨d1, d2⟩, ⟨e1, e2⟩, ⟨f1, f2⟩⟩ := hw
    have k1 := itoa9 (show 0 ≤ o.id by omega) a2
    have k2 := itoa9 (show 0 ≤ o.fund by omega) b2
    have k3 := itoa9 (show 0 ≤ o.copies by omega) (show o.copies ≤ 999999999 by omega)
    have k4 := itoa9 e1 e2
    have k5 := recT9 c1 c2 d1 d2
    have k6 := itoa9 (show (0 : Int) ≤ 1 by omega) (by omega)
    unfold orderX
    simp only [List.forall_mem_cons, List.not_mem_nil, false_imp_iff, implies_true, and_true]
    repeat' apply And.intro
    all_goals first | decide | omega
  · rw [if_neg h]; intro x hx; cases hx
/-- The order of a law's second round: all its numbers may be written. -/
def smallO (o : Ord) : Ord := ⟨1 + o.id % 999999999, 1 + o.fund % 999999999, o.src % 1000000000, o.num % 1000000000, 1 + o.copies % 9999, o.price % 1000000000, o.prom, o.paid, o.st⟩
end Go.PK

/- Of the proofs of YtbamklefagghcaaGreatDoor; see NOTES.md. -/
namespace Go.PK
open Go Go.RowKit
section
variable {P : Program} {n : Nat} {l : List (Nat × Value)} {own : List (Nat × Obj)} {ro : List Snap} {ty t t' : TypeId} {x y : Operand} {xs ys : Array Value} {b : Bool}
theorem v_neA (hm : P.eqGuardType P.depth t = false) (hx : ev l x = some (.agg xs)) (hy : ev l y = some (.agg ys)) (he : ∀ w, (Op.equalIn 10000 t (.agg xs) (.agg ys)).run P w = .ok b w) : OpV P n l own ro (.binOp .neq t x y t') ty (.bool (!b)) := by
  intro A w o ha _ ho _
  simp [execOp, ho, ha.eval hx, ha.eval hy, run_eqGuard_agg w .neq t x y xs ys hm, run_neq_struct, he]
end
end Go.PK

/- Of the proofs of YtbamklefagghcaaGreatDoor; see NOTES.md. -/
/-! Invoices: the plain functions. -/
namespace Go.PK
open Go Go.RowKit
set_option linter.unusedVariables false
def inv4 (k : Nat) (o : Ord) : List Seg :=
  [⟨⟨#[76, 73, 78]⟩, [[itoaS ((k + 1 : Nat) : Int)], [⟨#[]⟩], [recT o.src o.num, ⟨#[83, 82, 86]⟩]]⟩,
   ⟨⟨#[82, 70, 70]⟩, [[⟨#[79, 78]⟩, itoaS o.id]]⟩,
   ⟨⟨#[81, 84, 89]⟩, [[⟨#[52, 55]⟩, itoaS o.copies]]⟩,
   ⟨⟨#[80, 82, 73]⟩, [[⟨#[65, 65, 65]⟩, itoaS o.price]]⟩]
def linesX : Nat → List Ord → List Seg
  | _, [] => []
  | k, o :: t => inv4 k o ++ linesX (k + 1) t
def headX : List Seg :=
  [⟨⟨#[85, 78, 72]⟩, [[⟨#[49]⟩], [⟨#[73, 78, 86, 79, 73, 67]⟩, ⟨#[68]⟩, ⟨#[57, 54, 65]⟩, ⟨#[85, 78]⟩]]⟩, ⟨⟨#[66, 71, 77]⟩, [[⟨#[51, 56, 48]⟩]]⟩]
def tailX (n : Nat) (t : ByteArray) : List Seg :=
  [⟨⟨#[85, 78, 83]⟩, [[⟨#[83]⟩]]⟩, ⟨⟨#[77, 79, 65]⟩, [[⟨#[56, 54]⟩, t]]⟩, ⟨⟨#[85, 78, 84]⟩, [[itoaS ((4 * n + 5 : Nat) : Int)], [⟨#[49]⟩]]⟩]
def withX (ls : List Ord) (t : ByteArray) : List Seg := (headX ++ linesX 0 ls) ++ tailX ls.length t
def pf (o : Ord) : Ord := { o with fund := 1 }
def payP (ls : List Ord) : Prop := 1 ≤ ls.length ∧ ls.length ≤ 999 ∧ ∀ o ∈ ls, wrO (pf o)
instance (ls : List Ord) : Decidable (payP ls) := by unfold payP; infer_instance
def totalP (ls : List Ord) : Int := (ls.map fun o => o.copies * o.price).sum
def invR (ls : List Ord) : List Seg := if payP ls then withX ls (itoaS (totalP ls)) else []
def normI (o : Ord) : Ord := mkO o.id 0 (o.src, o.num) o.copies o.price
theorem linesX_len : ∀ (ls : List Ord) (j : Nat), (linesX j ls).length = 4 * ls.length
  | [], _ => rfl
  | o :: t, j => by
    show (inv4 j o ++ linesX (j + 1) t).length = _
    rw [List.length_append, linesX_len t (j + 1), List.length_cons]
    show 4 + 4 * t.length = _
    omega
theorem linesX_snoc : ∀ (ls : List Ord) (o : Ord) (j : Nat), linesX j (ls ++ [o]) = linesX j ls ++ inv4 (j + ls.length) o
  | [], o, j => by show inv4 j o ++ [] = [] ++ inv4 (j + 0) o; rw [List.append_nil]; rfl
  | p :: t, o, j => by
    show inv4 j p ++ linesX (j + 1) (t ++ [o]) = (inv4 j p ++ linesX (j + 1) t) ++ _
    rw [linesX_snoc t o (j + 1), List.append_assoc, List.length_cons, show j + 1 + t.length = j + (t.length + 1) by omega]
theorem linesX_get : ∀ (ls : List Ord) (j k i : Nat) (hk : k < ls.length), i < 4 → (linesX j ls)[4 * k + i]? = (inv4 (j + k) ls[k])[i]?
  | [], _, _, _, hk, _ => absurd hk (Nat.not_lt_zero _)
  | o :: t, j, 0, i, _, hi => by
    show (inv4 j o ++ linesX (j + 1) t)[4 * 0 + i]? = _
    rw [List.getElem?_append_left (by show _ < 4; omega), show 4 * 0 + i = i by omega]; rfl
  | o :: t, j, k + 1, i, hk, hi => by
    show (inv4 j o ++ linesX (j + 1) t)[4 * (k + 1) + i]? = _
    rw [List.getElem?_append_right (by show 4 ≤ _; omega), show 4 * (k + 1) + i - (inv4 j o).length = 4 * k + i by show _ - 4 = _; omega, linesX_get t (j + 1) k i (by simpa using hk) hi, show j + 1 + k = j + (k + 1) by omega]; rfl
theorem linesX_norm : ∀ (ls : List Ord) (j : Nat), linesX j (ls.map normI) = linesX j ls
  | [], _ => rfl
  | o :: t, j => by
    show inv4 j (normI o) ++ linesX (j + 1) (t.map normI) = inv4 j o ++ linesX (j + 1) t
    rw [linesX_norm t (j + 1)]; rfl
theorem withX_norm (ls : List Ord) (t : ByteArray) : withX (ls.map normI) t = withX ls t := by
  unfold withX; rw [linesX_norm, List.length_map]
theorem withX_len (ls : List Ord) (t : ByteArray) : (withX ls t).length = 4 * ls.length + 5 := by
  unfold withX; rw [List.length_append, List.length_append, linesX_len]; show 2 + _ + 3 = _; omega
theorem withX_get (ls : List Ord) (t : ByteArray) {k i : Nat} (hk : k < ls.length) (hi : i < 4) : (withX ls t)[4 * k + (i + 2)]? = (inv4 k ls[k])[i]? := by
  unfold withX
  rw [List.getElem?_append_left (by rw [List.length_append, linesX_len]; show _ < 2 + _; omega), List.getElem?_append_right (by show 2 ≤ _; omega), show 4 * k + (i + 2) - headX.length = 4 * k + i by show _ - 2 = _; omega, linesX_get ls 0 k i hk hi, Nat.zero_add]
theorem withX_moa (ls : List Ord) (t : ByteArray) : (withX ls t)[(withX ls t).length - 2]? = some ⟨⟨#[77, 79, 65]⟩, [[⟨#[56, 54]⟩, t]]⟩ := by
  rw [withX_len]
  unfold withX
  rw [List.getElem?_append_right (by rw [List.length_append, linesX_len]; show 2 + _ ≤ _; omega), show 4 * ls.length + 5 - 2 - (headX ++ linesX 0 ls).length = 1 by rw [List.length_append, linesX_len]; show _ - (2 + _) = _; omega]
  rfl
theorem withX_inj {ls : List Ord} {t u : ByteArray} (h : withX ls t = withX ls u) : t = u := by
  have h1 := withX_moa ls t
  rw [h, withX_moa] at h1
  simpa using h1.symm
theorem txO_at {l : List Seg} {n : Nat} {x : Seg} (h : l[n]? = some x) (e c : Nat) : txO l n e c = (x.els[e]?).bind fun y => y[c]? := by unfold txO; rw [h]; rfl
def lineE (l : List Seg) (k : Nat) : Ord := mkO (readP (txt l (4 * k + 3) 0 1)) 0 (recS (txt l (4 * k + 2) 2 0)) (readP (txt l (4 * k + 4) 0 1)) (readP (txt l (4 * k + 5) 0 1))
def linesE (l : List Seg) : List Ord := (List.range (min 1000 ((l.length - 3) / 4))).map (lineE l)
def totE (l : List Seg) : ByteArray := txt l (l.length - 2) 0 1
def rdI (l : List Seg) : List Ord × Int :=
  if payP (linesE l) ∧ (invR (linesE l)).length = l.length then
    if invR (linesE l) = l then (linesE l, 0)
    else if 0 ≤ readP (totE l) ∧ itoaS (readP (totE l)) = totE l ∧ withX (linesE l) (totE l) = l then ([], 60) else ([], 11)
  else ([], 11)
def lineR (l : List Seg) (k : Nat) : Ord := mkO (atP l (4 * k + 3) 0 1).1 0 (rrec l (4 * k + 2)).1 (atP l (4 * k + 4) 0 1).1 (atP l (4 * k + 5) 0 1).1
def lineOk (l : List Seg) (k : Nat) : Prop := (rrec l (4 * k + 2)).2 = true ∧ (atP l (4 * k + 3) 0 1).2 = true ∧ (atP l (4 * k + 4) 0 1).2 = true ∧ (atP l (4 * k + 5) 0 1).2 = true
def cntR (l : List Seg) : Nat := (l.length - 5) / 4
def linesR (l : List Seg) : List Ord := (List.range (cntR l)).map (lineR l)
def shapeR (l : List Seg) : Prop := 9 ≤ l.length ∧ l.length % 4 = 1 ∧ l.length ≤ 4001
def moaR (l : List Seg) : Prop := ∃ x, l[l.length - 2]? = some x ∧ x.els.length = 1 ∧ ∃ y, x.els[0]? = some y ∧ y.length = 2
def okR (l : List Seg) : Prop := shapeR l ∧ (∀ k, k < cntR l → lineOk l k) ∧ payP (linesR l) ∧ moaR l ∧ (valP (totE l) 18).2 = true ∧ withX (linesR l) (totE l) = l
open Classical in
noncomputable def rrI (l : List Seg) : List Ord × Int := if okR l then (if (valP (totE l) 18).1 = totalP (linesR l) then (linesR l, 0) else ([], 60)) else ([], 11)
theorem pay_norm {ls : List Ord} (h : payP ls) : payP (ls.map normI) := by
  obtain ⟨h1, h2, h3⟩ := h
  refine ⟨by rw [List.length_map]; exact h1, by rw [List.length_map]; exact h2, fun o ho => ?_⟩
  obtain ⟨p, hp, rfl⟩ := List.mem_map.1 ho
  exact h3 p hp
theorem total_norm (ls : List Ord) : totalP (ls.map normI) = totalP ls := by
  unfold totalP; rw [List.map_map]; rfl
theorem line_of {ls : List Ord} {t : ByteArray} (h : ∀ o ∈ ls, wrO (pf o)) {k : Nat} (hk : k < ls.length) : lineE (withX ls t) k = normI ls[k] ∧ lineR (withX ls t) k = normI ls[k] ∧ lineOk (withX ls t) k := by
  obtain ⟨⟨a1, a2⟩, _, ⟨c1, c2⟩, ⟨d1, d2⟩, ⟨e1, e2⟩, ⟨f1, f2⟩⟩ := h ls[k] (List.getElem_mem hk)
  have g0 := withX_get ls t hk (i := 0) (by omega)
  have g1 := withX_get ls t hk (i := 1) (by omega)
  have g2 := withX_get ls t hk (i := 2) (by omega)
  have g3 := withX_get ls t hk (i := 3) (by omega)
  generalize ls[k] = o at a1 a2 c1 c2 d1 d2 e1 e2 f1 f2 g0 g1 g2 g3 ⊢
  have a1 : 1 ≤ o.id := a1
  have a2 : o.id ≤ 999999999 := a2
  have c1 : 0 ≤ o.src := c1
  have c2 : o.src ≤ 999999999 := c2
  have d1 : 0 ≤ o.num := d1
  have d2 : o.num ≤ 999999999 := d2
  have e1 : 0 ≤ o.price := e1
  have e2 : o.price ≤ 999999999 := e2
  have f1 : 1 ≤ o.copies := f1
  have f2 : o.copies ≤ 9999 := f2
  generalize withX ls t = l at g0 g1 g2 g3 ⊢
  have t0 : txO l (4 * k + 2) 2 0 = some (recT o.src o.num) := (txO_at g0 2 0).trans rfl
  have t1 : txO l (4 * k + 3) 0 1 = some (itoaS o.id) := (txO_at g1 0 1).trans rfl
  have t2 : txO l (4 * k + 4) 0 1 = some (itoaS o.copies) := (txO_at g2 0 1).trans rfl
  have t3 : txO l (4 * k + 5) 0 1 = some (itoaS o.price) := (txO_at g3 0 1).trans rfl
  have hr : rrec l (4 * k + 2) = rrecS (recT o.src o.num) := by unfold rrec; rw [g0]; rfl
  have hr2 : rrecS (recT o.src o.num) = ((o.src, o.num), true) := by
    unfold rrecS; rw [recS_T c1 d1]; simp only [if_true, val9 c1 c2, val9 d1 d2]; rfl
  unfold lineE lineR lineOk atP txt
  rw [hr, hr2, t0, t1, t2, t3]
  simp only [Option.getD_some, val9 (show 0 ≤ o.id by omega) a2, val9 (show 0 ≤ o.copies by omega) (show o.copies ≤ 999999999 by omega), val9 e1 e2, read9 (show 0 ≤ o.id by omega) a2, read9 (show 0 ≤ o.copies by omega) (show o.copies ≤ 999999999 by omega), read9 e1 e2]
  refine ⟨?_, rfl, trivial, trivial, trivial, trivial⟩
  unfold recS; rw [recS_T c1 d1]; simp only [read9 c1 c2, read9 d1 d2]; rfl
theorem map_range {α : Type} {ls : List Ord} {n : Nat} {f : Nat → α} {g : Ord → α} (hn : n = ls.length) (h : ∀ k (hk : k < ls.length), f k = g ls[k]) : (List.range n).map f = ls.map g := by
  subst hn
  refine List.ext_getElem (by simp) fun i h1 h2 => ?_
  simp only [List.getElem_map, List.getElem_range]
  exact h i (by simpa using h1)
theorem lines_of {ls : List Ord} {t : ByteArray} (h : payP ls) : linesE (withX ls t) = ls.map normI ∧ linesR (withX ls t) = ls.map normI ∧ cntR (withX ls t) = ls.length := by
  obtain ⟨h1, h2, h3⟩ := h
  have e : cntR (withX ls t) = ls.length := by unfold cntR; rw [withX_len]; omega
  refine ⟨map_range (by rw [withX_len]; omega) fun k hk => (line_of h3 hk).1, map_range e fun k hk => (line_of h3 hk).2.1, e⟩
theorem tot_of (ls : List Ord) (t : ByteArray) : totE (withX ls t) = t := by
  unfold totE txt
  rw [txO_at (withX_moa ls t)]; rfl
theorem total_le : ∀ {ls : List Ord}, (∀ o ∈ ls, wrO (pf o)) → 0 ≤ totalP ls ∧ totalP ls ≤ 10000000000000 * (ls.length : Int)
  | [], _ => ⟨Int.le_refl _, by show (0 : Int) ≤ _; simp⟩
  | o :: t, h => by
    obtain ⟨h1, h2⟩ := total_le (ls := t) fun p hp => h p (List.mem_cons_of_mem _ hp)
    obtain ⟨_, _, _, _, ⟨e1, e2⟩, ⟨f1, f2⟩⟩ := h o (List.mem_cons_self ..)
    have e1 : 0 ≤ o.price := e1
    have e2 : o.price ≤ 999999999 := e2
    have f1 : 1 ≤ o.copies := f1
    have f2 : o.copies ≤ 9999 := f2
    have e : totalP (o :: t) = o.copies * o.price + totalP t := by unfold totalP; rw [List.map_cons, List.sum_cons]
    have g1 : 0 ≤ o.copies * o.price := Int.mul_nonneg (by omega) e1
    have g2 : o.copies * o.price ≤ 9999 * 999999999 := Int.mul_le_mul f2 e2 e1 (by decide)
    rw [e, List.length_cons]
    constructor <;> omega
theorem canon_iff (t : ByteArray) : (valP t 18).2 = true ↔ 0 ≤ readP t ∧ itoaS (readP t) = t := by
  constructor
  · intro h
    obtain ⟨_, _, h3, h4⟩ := valP_ok h
    rw [readP_canon h4 h3]
    exact ⟨by omega, canon_itoa h4⟩
  · intro ⟨h1, h2⟩
    have h3 := readP_size h1
    have h4 := itoa_canon h1
    rw [h2] at h4
    unfold valP
    rw [if_pos ⟨h4, h3⟩]
theorem tot_eq {ls : List Ord} {t : ByteArray} (h : payP ls) : itoaS (totalP ls) = t ↔ (valP t 18).2 = true ∧ (valP t 18).1 = totalP ls := by
  obtain ⟨h1, h2, h3⟩ := h
  obtain ⟨h4, h5⟩ := total_le h3
  have hb : totalP ls < 1000000000000000000 := by omega
  constructor
  · rintro rfl
    have := valP_itoa h4 17 (by have e : (10 : Int) ^ (17 + 1) = 1000000000000000000 := by decide
                                rw [e]; exact hb)
    rw [this]; exact ⟨rfl, rfl⟩
  · intro ⟨h6, h7⟩
    rw [← h7]; exact (valP_ok h6).1
theorem rdI_with {ls : List Ord} (h : payP ls) (t : ByteArray) : rdI (withX ls t) = if (valP t 18).2 = true then (if (valP t 18).1 = totalP ls then (ls.map normI, 0) else ([], 60)) else ([], 11) := by
  unfold rdI
  obtain ⟨h1, h2, h3⟩ := lines_of (t := t) h
  rw [h1, tot_of]
  have hx : invR (ls.map normI) = withX ls (itoaS (totalP ls)) := by unfold invR; rw [if_pos (pay_norm h), withX_norm, total_norm]
  rw [hx, withX_len, withX_len, withX_norm, if_pos ⟨pay_norm h, rfl⟩]
  have e1 : (withX ls (itoaS (totalP ls)) = withX ls t) ↔ itoaS (totalP ls) = t := ⟨fun q => withX_inj q, fun q => by rw [q]⟩
  by_cases hc : (valP t 18).2 = true
  · rw [if_pos hc]
    by_cases hv : (valP t 18).1 = totalP ls
    · rw [if_pos hv, if_pos (e1.2 ((tot_eq h).2 ⟨hc, hv⟩))]
    · rw [if_neg hv, if_neg (fun q => hv ((tot_eq h).1 (e1.1 q)).2), if_pos ⟨((canon_iff t).1 hc).1, ((canon_iff t).1 hc).2, rfl⟩]
  · rw [if_neg hc, if_neg (fun q => hc ((tot_eq h).1 (e1.1 q)).1), if_neg (fun q => hc ((canon_iff t).2 ⟨q.1, q.2.1⟩))]
theorem rrI_with {ls : List Ord} (h : payP ls) (t : ByteArray) : rrI (withX ls t) = if (valP t 18).2 = true then (if (valP t 18).1 = totalP ls then (ls.map normI, 0) else ([], 60)) else ([], 11) := by
  unfold rrI
  obtain ⟨h1, h2, h3⟩ := lines_of (t := t) h
  obtain ⟨p1, p2, p3⟩ := id h
  rw [h2, tot_of, total_norm]
  by_cases hc : (valP t 18).2 = true
  · rw [if_pos hc, if_pos]
    refine ⟨⟨by rw [withX_len]; omega, by rw [withX_len]; omega, by rw [withX_len]; omega⟩, fun k hk => (line_of p3 (by rwa [h3] at hk)).2.2, by rw [h2]; exact pay_norm h, ⟨_, withX_moa ls t, rfl, _, rfl, rfl⟩, by rw [tot_of]; exact hc, by rw [h2, tot_of, withX_norm]⟩
  · rw [if_neg hc, if_neg]
    intro ⟨_, _, _, _, q, _⟩
    rw [tot_of] at q; exact hc q
theorem rdI_eq (l : List Seg) : rdI l = rrI l := by
  by_cases hl : ∃ ls t, payP ls ∧ withX ls t = l
  · obtain ⟨ls, t, h, rfl⟩ := hl
    rw [rdI_with h, rrI_with h]
  · have e1 : rrI l = ([], 11) := by
      unfold rrI; rw [if_neg]
      intro ⟨_, _, q, _, _, r⟩
      exact hl ⟨_, _, q, r⟩
    have e2 : rdI l = ([], 11) := by
      unfold rdI
      by_cases h1 : payP (linesE l) ∧ (invR (linesE l)).length = l.length
      · rw [if_pos h1, if_neg, if_neg]
        · intro q; exact hl ⟨_, _, h1.1, q.2.2⟩
        · intro q
          have : invR (linesE l) = withX (linesE l) (itoaS (totalP (linesE l))) := by unfold invR; rw [if_pos h1.1]
          exact hl ⟨_, _, h1.1, this.symm.trans q⟩
      · rw [if_neg h1]
    rw [e1, e2]
theorem invR_len (ls : List Ord) : (invR ls).length = if payP ls then 4 * ls.length + 5 else 0 := by
  unfold invR
  by_cases h : payP ls
  · rw [if_pos h, if_pos h, withX_len]
  · rw [if_neg h, if_neg h]; rfl
end Go.PK

/- Of the proofs of YtbamklefagghcaaGreatDoor; see NOTES.md. -/
/-! Rows that grow by several elements; totals. -/
namespace Go.PK
open Go Go.RowKit
set_option linter.unusedVariables false
theorem snocM {α : Type} {T : Ty α} {D : Nat → Prop} {ws : World} {r' : RowS} {xs ys : List α} {css css' : List (List Value)} {n m : Nat} (hn : xs.length = n) (h1 : css.length = n) (h3 : ∀ j (h1 : j < css.length) (h2 : j < xs.length), T.rd D ws css[j] xs[j])
    (hr : rowOK T.size r' (n + m) (css.flatten ++ css'.flatten)) (hm : m = ys.length) (hx : RdAll T D ws css' ys) : RowT T D ws r' (xs ++ ys) := by
  subst hn hm
  refine ⟨css ++ css', by simp [h1, hx.len.1], by rw [List.length_append, List.flatten_append]; exact hr, fun j a b => ?_⟩
  by_cases hj : j < css.length
  · rw [List.getElem_append_left hj, List.getElem_append_left (by omega)]; exact h3 j hj (by omega)
  · have := hx.at (j - css.length) (by simp at a; omega) (by simp at b; omega)
    rw [List.getElem_append_right (by omega), List.getElem_append_right (by omega)]
    simpa [h1] using this
theorem totalP_snoc : ∀ (l : List Ord) (o : Ord), totalP (l ++ [o]) = totalP l + o.copies * o.price
  | [], o => by unfold totalP; simp
  | p :: t, o => by
    have ih := totalP_snoc t o
    unfold totalP at ih ⊢
    rw [List.cons_append, List.map_cons, List.sum_cons, ih, List.map_cons, List.sum_cons, Int.add_assoc]
theorem total_take {ls : List Ord} (h : ∀ o ∈ ls, wrO (pf o)) (k : Nat) : 0 ≤ totalP (ls.take k) ∧ totalP (ls.take k) ≤ 10000000000000 * ((min k ls.length : Nat) : Int) := by
  have := total_le (ls := ls.take k) fun o ho => h o (List.mem_of_mem_take ho)
  rwa [List.length_take] at this
theorem line_rng {o : Ord} (h : wrO (pf o)) : 0 ≤ o.copies * o.price ∧ o.copies * o.price ≤ 9998999990001 ∧ (0 ≤ o.id ∧ o.id ≤ 999999999) ∧ (0 ≤ o.src ∧ o.src ≤ 999999999) ∧ (0 ≤ o.num ∧ o.num ≤ 999999999) ∧ (0 ≤ o.copies ∧ o.copies ≤ 9999) ∧ 0 ≤ o.price ∧ o.price ≤ 999999999 := by
  obtain ⟨⟨a1, a2⟩, _, ⟨c1, c2⟩, ⟨d1, d2⟩, ⟨e1, e2⟩, ⟨f1, f2⟩⟩ := h
  have a1 : 1 ≤ o.id := a1
  have a2 : o.id ≤ 999999999 := a2
  have c1 : 0 ≤ o.src := c1
  have c2 : o.src ≤ 999999999 := c2
  have d1 : 0 ≤ o.num := d1
  have d2 : o.num ≤ 999999999 := d2
  have e1 : 0 ≤ o.price := e1
  have e2 : o.price ≤ 999999999 := e2
  have f1 : 1 ≤ o.copies := f1
  have f2 : o.copies ≤ 9999 := f2
  have g1 : 0 ≤ o.copies * o.price := Int.mul_nonneg (by omega) e1
  have g2 : o.copies * o.price ≤ 9999 * 999999999 := Int.mul_le_mul f2 e2 e1 (by decide)
  omega
theorem pf_ok {o : Ord} (h : o.okA) : (pf o).ok := by
  obtain ⟨⟨h1, _, h3, h4, h5, h6⟩, _⟩ := h
  exact ⟨h1, by show in64 1; unfold in64; decide, h3, h4, h5, h6⟩
theorem take_snoc {α : Type} {ls : List α} {k : Nat} (hk : k < ls.length) : ls.take (k + 1) = ls.take k ++ [ls[k]] := List.take_succ_eq_append_getElem hk
theorem take_all_wr {ls : List Ord} {k : Nat} (hk : k < ls.length) (h : ∀ o ∈ ls.take k, wrO (pf o)) (h2 : wrO (pf ls[k])) : ∀ o ∈ ls.take (k + 1), wrO (pf o) := fun o ho => by
  rw [take_snoc hk] at ho
  rcases List.mem_append.1 ho with h3 | h3
  · exact h o h3
  · rw [List.mem_singleton.1 h3]; exact h2
theorem linesX_take {ls : List Ord} {k : Nat} (hk : k < ls.length) : headX ++ linesX 0 (ls.take (k + 1)) = (headX ++ linesX 0 (ls.take k)) ++ inv4 k ls[k] := by
  rw [take_snoc hk, linesX_snoc, List.length_take, List.append_assoc, show 0 + min k ls.length = k by omega]
theorem hl_len {ls : List Ord} {k : Nat} (hk : k ≤ ls.length) : (headX ++ linesX 0 (ls.take k)).length = 2 + 4 * k := by
  rw [List.length_append, linesX_len, List.length_take, Nat.min_eq_left hk]; rfl
end Go.PK

/- Of the proofs of YtbamklefagghcaaGreatDoor; see NOTES.md. -/
/-! Invoices are read: the last segments; lines that can be written. -/
namespace Go.PK
open Go Go.RowKit
set_option linter.unusedVariables false
theorem RowT.any {α : Type} {T : Ty α} {D' : Nat → Prop} {w wx : World} {own : List (Nat × Obj)} {ro : List Snap} {e : TypeId} {r : RowS} {xs : List α} {v : Nat} (h : RowT T (fun _ => False) wx r xs) (hm : Mem w own ro) (hin : ∀ p ∈ rowO e r, p ∈ own) (hD : ∀ p ∈ rowO e r, D' p.1) (hv : v = xs.length) : sliceRd T D' w (rowV r v) xs :=
  RowT.rd (D := fun _ => False) (w := w) (h.keep (fun k hk _ => hk.elim)) hm hin (fun _ hx => hx.elim) hD hv
theorem Kept.made0 {w wa wb w0 : World} {own own1 : List (Nat × Obj)} {ro ro1 : List Snap} (h : Mem w0 own ro) (hm : Mem wa own1 ro1) (hs : (wb, notOwn own1) ∈ ro) (hw : (w, fun _ => True) ∈ ro1) : Kept (fun b => wa.heap.size ≤ b) (fun b => w.heap.size ≤ b) wb w0 := fun k hk hlt => by
  obtain ⟨h1, h2⟩ := Kept.made (w := w) h hs hm (hm.base hw).size k hk hlt
  exact ⟨h1.1, h2⟩
theorem rrI_no {l : List Seg} (h : ¬okR l) : rrI l = ([], 11) := by unfold rrI; rw [if_neg h]
theorem segD_at {l : List Seg} {n : Nat} (h : n < l.length) : l[n]? = some (segD l n) := by unfold segD; rw [getD_at h, List.getElem?_eq_getElem h]
theorem elsD_at {x : List (List ByteArray)} {n : Nat} (h : n < x.length) : x[n]? = some (elsD x n) := by unfold elsD; rw [getD_at h, List.getElem?_eq_getElem h]
theorem moa_iff {l : List Seg} (h : l.length - 2 < l.length) : moaR l ↔ (segD l (l.length - 2)).els.length = 1 ∧ (elsD (segD l (l.length - 2)).els 0).length = 2 := by
  unfold moaR
  rw [segD_at h]
  constructor
  · rintro ⟨x, hx, h1, y, hy, h2⟩
    obtain rfl := Option.some.inj hx
    rw [elsD_at (by omega)] at hy
    obtain rfl := Option.some.inj hy
    exact ⟨h1, h2⟩
  · intro ⟨h1, h2⟩
    exact ⟨_, rfl, h1, _, elsD_at (by omega), h2⟩
theorem totE_in {l : List Seg} (h1 : l.length - 2 < l.length) (h2 : 0 < (segD l (l.length - 2)).els.length) (h3 : 1 < (elsD (segD l (l.length - 2)).els 0).length) : totE l = (elsD (segD l (l.length - 2)).els 0)[1] := by
  unfold totE txt; rw [txO_in h1 h2 h3]; rfl
theorem range_snoc {α : Type} (f : Nat → α) (k : Nat) : (List.range (k + 1)).map f = (List.range k).map f ++ [f k] := by rw [List.range_succ, List.map_append]; rfl
/-- A line whose numbers may be written. -/
def smallI (o : Ord) : Ord := ⟨1 + o.id % 999999999, 0, o.src % 1000000000, o.num % 1000000000, 1 + o.copies % 9999, o.price % 1000000000, 0, 0, 0⟩
theorem smallI_okA (o : Ord) : (smallI o).okA := by
  unfold Ord.okA Ord.ok smallI in64
  dsimp only
  omega
end Go.PK

/- Of the proofs of YtbamklefagghcaaGreatDoor; see NOTES.md. -/
/-! The program's own segments of an invoice: what Split makes of their elements. -/
namespace Go.PK
open Go Go.RowKit
set_option linter.unusedVariables false
def esOk (L : List ByteArray) (T : List (List ByteArray)) : Prop := L.map splitC = T ∧ ∀ s ∈ L, s.size ≤ 100
theorem es_unh : esOk [⟨#[49]⟩, ⟨#[73, 78, 86, 79, 73, 67, 58, 68, 58, 57, 54, 65, 58, 85, 78]⟩] [[⟨#[49]⟩], [⟨#[73, 78, 86, 79, 73, 67]⟩, ⟨#[68]⟩, ⟨#[57, 54, 65]⟩, ⟨#[85, 78]⟩]] :=
  ⟨by decide +kernel, by decide⟩
theorem es_bgm : esOk [⟨#[51, 56, 48]⟩] [[⟨#[51, 56, 48]⟩]] := ⟨by decide +kernel, by decide⟩
theorem es_uns : esOk [⟨#[83]⟩] [[⟨#[83]⟩]] := ⟨by decide +kernel, by decide⟩
theorem split_nil : splitC ⟨#[]⟩ = [⟨#[]⟩] := by decide +kernel
theorem split_1 : splitC ⟨#[49]⟩ = [⟨#[49]⟩] := by decide +kernel
theorem sz_cons {L : List ByteArray} {s : ByteArray} (h : s.size ≤ 100) (t : ∀ x ∈ L, x.size ≤ 100) : ∀ x ∈ s :: L, x.size ≤ 100 := fun x hx => by
  rcases List.mem_cons.1 hx with rfl | hx
  · exact h
  · exact t x hx
theorem sz_nil : ∀ x ∈ ([] : List ByteArray), x.size ≤ 100 := fun x hx => by cases hx
theorem es_lin {n : Int} {o : Ord} (hn : 0 ≤ n) (hi : in64 n) (h1 : 0 ≤ o.src) (h2 : 0 ≤ o.num) (i1 : in64 o.src) (i2 : in64 o.num) : esOk [itoaS n, ⟨#[]⟩, artS o.src o.num] [[itoaS n], [⟨#[]⟩], [recT o.src o.num, ⟨#[83, 82, 86]⟩]] :=
  ⟨by rw [List.map_cons, List.map_cons, List.map_cons, List.map_nil, split_none (itoa_ne hn c58), split_nil, art_split h1 h2], sz_cons (Nat.le_trans (itoaS_size hi) (by decide)) (sz_cons (by decide) (sz_cons (Nat.le_trans (artS_size i1 i2) (by decide)) sz_nil))⟩
theorem es_p3 {a b : UInt8} {n : Int} (h : 0 ≤ n) (hi : in64 n) (ha : a ≠ 58) (hb : b ≠ 58) : esOk [(⟨#[a, b, 58]⟩ : ByteArray) ++ itoaS n] [[⟨#[a, b]⟩, itoaS n]] :=
  ⟨by rw [List.map_cons, List.map_nil, pre3 h ha hb], sz_cons (by rw [ByteArray.size_append]; have := itoaS_size hi; show 3 + _ ≤ _; omega) sz_nil⟩
theorem es_p4 {a b d : UInt8} {n : Int} (h : 0 ≤ n) (hi : in64 n) (ha : a ≠ 58) (hb : b ≠ 58) (hd : d ≠ 58) : esOk [(⟨#[a, b, d, 58]⟩ : ByteArray) ++ itoaS n] [[⟨#[a, b, d]⟩, itoaS n]] :=
  ⟨by rw [List.map_cons, List.map_nil, pre4 h ha hb hd], sz_cons (by rw [ByteArray.size_append]; have := itoaS_size hi; show 4 + _ ≤ _; omega) sz_nil⟩
theorem es_unt {n : Int} (h : 0 ≤ n) (hi : in64 n) : esOk [itoaS n, ⟨#[49]⟩] [[itoaS n], [⟨#[49]⟩]] :=
  ⟨by rw [List.map_cons, List.map_cons, List.map_nil, split_none (itoa_ne h c58), split_1], sz_cons (Nat.le_trans (itoaS_size hi) (by decide)) (sz_cons (by decide) sz_nil)⟩
end Go.PK

/- Of the proofs of YtbamklefagghcaaGreatDoor; see NOTES.md. -/
/-! The laws of the invoices: sizes, totals that are none, lines that are cut. -/
namespace Go.PK
open Go Go.RowKit
set_option linter.unusedVariables false
def cutP (ls : List Ord) (m : Nat) : List Ord := (ls.take (min ls.length m)).map smallI
theorem cutP_len (ls : List Ord) (m : Nat) : (cutP ls m).length = min ls.length m := by unfold cutP; rw [List.length_map, List.length_take]; omega
theorem itoa21 {n : Int} (h : in64 n) : (itoaS n).size ≤ 2000000000 := Nat.le_trans (itoaS_size h) (by decide)
theorem in64_9 {n : Int} (h : 0 ≤ n) (h2 : n ≤ 999999999) : in64 n := by unfold in64; omega
theorem inv4_big {k : Nat} {o : Ord} (hk : k ≤ 1000000) (h : wrO (pf o)) : ∀ x ∈ inv4 k o, ∀ y ∈ x.els, ∀ s ∈ y, s.size ≤ 2000000000 := by
  obtain ⟨_, _, ⟨r1, r2⟩, ⟨r3, r4⟩, ⟨r5, r6⟩, ⟨r7, r8⟩, r9, r10⟩ := line_rng h
  have k1 := itoa21 (in64_9 r1 r2)
  have k2 := itoa21 (n := ((k + 1 : Nat) : Int)) (by unfold in64; omega)
  have k3 := itoa21 (in64_9 r7 (show o.copies ≤ 999999999 by omega))
  have k4 := itoa21 (in64_9 r9 r10)
  have k5 := recT9 r3 r4 r5 r6
  unfold inv4
  simp only [List.forall_mem_cons, List.not_mem_nil, false_imp_iff, implies_true, and_true]
  repeat' apply And.intro
  all_goals first | decide | omega
theorem linesX_big : ∀ (ls : List Ord) (j : Nat), (∀ o ∈ ls, wrO (pf o)) → j + ls.length ≤ 1000000 → ∀ x ∈ linesX j ls, ∀ y ∈ x.els, ∀ s ∈ y, s.size ≤ 2000000000
  | [], _, _, _ => fun x hx => by cases hx
  | o :: t, j, h, hj => fun x hx => by
    have hx : x ∈ inv4 j o ++ linesX (j + 1) t := hx
    rw [List.length_cons] at hj
    rcases List.mem_append.1 hx with h1 | h1
    · exact inv4_big (by omega) (h o (List.mem_cons_self ..)) x h1
    · exact linesX_big t (j + 1) (fun p hp => h p (List.mem_cons_of_mem _ hp)) (by omega) x h1
theorem withX_big {ls : List Ord} {t : ByteArray} (h : ∀ o ∈ ls, wrO (pf o)) (hn : ls.length ≤ 1000) (ht : t.size ≤ 2000000000) : ∀ x ∈ withX ls t, ∀ y ∈ x.els, ∀ s ∈ y, s.size ≤ 2000000000 := fun x hx => by
  unfold withX at hx
  rcases List.mem_append.1 hx with h1 | h1
  · rcases List.mem_append.1 h1 with h2 | h2
    · have hh : ∀ x ∈ headX, ∀ y ∈ x.els, ∀ s ∈ y, s.size ≤ 2000000000 := by
        unfold headX
        simp only [List.forall_mem_cons, List.not_mem_nil, false_imp_iff, implies_true, and_true]
        decide
      exact hh x h2
    · exact linesX_big ls 0 h (by omega) x h2
  · have k1 := itoa21 (n := ((4 * ls.length + 5 : Nat) : Int)) (by unfold in64; omega)
    have hh : ∀ x ∈ tailX ls.length t, ∀ y ∈ x.els, ∀ s ∈ y, s.size ≤ 2000000000 := by
      unfold tailX
      simp only [List.forall_mem_cons, List.not_mem_nil, false_imp_iff, implies_true, and_true]
      repeat' apply And.intro
      all_goals first | decide | omega
    exact hh x h1
theorem invR_big (ls : List Ord) : ∀ x ∈ invR ls, ∀ y ∈ x.els, ∀ s ∈ y, s.size ≤ 2000000000 := by
  unfold invR
  by_cases h : payP ls
  · rw [if_pos h]
    obtain ⟨h1, h2, h3⟩ := id h
    obtain ⟨t1, t2⟩ := total_le h3
    exact withX_big h3 (by omega) (itoa21 (by unfold in64; omega))
  · rw [if_neg h]; intro x hx; cases hx
end Go.PK

/- Of the proofs of YtbamklefagghcaaGreatDoor; see NOTES.md. -/
/-! Segments whose rows of elements and of texts are all the call's own; one thing of them is changed. -/
namespace Go.PK
open Go Go.RowKit
set_option linter.unusedVariables false
/-- A segment with the rows that hold it. -/
structure Sgr where
  tag : ByteArray
  R : RowS
  Ss : List RowS
  xs : List (List ByteArray)
def Sgr.seg (s : Sgr) : Seg := ⟨s.tag, s.xs⟩
def Sgr.cells (s : Sgr) : List Value := [.string s.tag, rowV s.R s.xs.length]
def Sgr.own (e1 e2 : TypeId) (s : Sgr) : List (Nat × Obj) := inO e2 s.Ss ++ rowO e1 s.R
def sgO (e1 e2 : TypeId) (l : List Sgr) : List (Nat × Obj) := l.reverse.flatMap (Sgr.own e1 e2)
def sgC (l : List Sgr) : List Value := l.flatMap Sgr.cells
theorem sgO_app (e1 e2 : TypeId) (a b : List Sgr) : sgO e1 e2 (a ++ b) = sgO e1 e2 b ++ sgO e1 e2 a := by simp [sgO]
theorem sgO_one (e1 e2 : TypeId) (s : Sgr) : sgO e1 e2 [s] = s.own e1 e2 := by simp [sgO]
theorem sgO_snoc (e1 e2 : TypeId) (l : List Sgr) (s : Sgr) : sgO e1 e2 (l ++ [s]) = inO e2 s.Ss ++ (rowO e1 s.R ++ sgO e1 e2 l) := by rw [sgO_app, sgO_one]; simp [Sgr.own]
theorem sgO_mid (e1 e2 : TypeId) (a b : List Sgr) (s : Sgr) : sgO e1 e2 (a ++ s :: b) = sgO e1 e2 b ++ (inO e2 s.Ss ++ (rowO e1 s.R ++ sgO e1 e2 a)) := by
  rw [show a ++ s :: b = (a ++ [s]) ++ b by simp, sgO_app, sgO_snoc]
theorem inO_mid (e : TypeId) (a b : List RowS) (S : RowS) : inO e (a ++ S :: b) = inO e b ++ (rowO e S ++ inO e a) := by simp [inO]
theorem mem_sgO {e1 e2 : TypeId} {l : List Sgr} {s : Sgr} (h : s ∈ l) : ∀ p ∈ s.own e1 e2, p ∈ sgO e1 e2 l := fun p hp => by
  unfold sgO; exact List.mem_flatMap.2 ⟨s, by simpa using h, hp⟩
theorem sgC_nil : sgC [] = [] := rfl
theorem sgC_app (a b : List Sgr) : sgC (a ++ b) = sgC a ++ sgC b := by simp [sgC]
theorem sgC_cons (s : Sgr) (b : List Sgr) : sgC (s :: b) = s.cells ++ sgC b := by simp [sgC]
theorem sgC_len : ∀ (l : List Sgr), (sgC l).length = l.length * 2
  | [] => rfl
  | s :: t => by rw [sgC_cons, List.length_append, sgC_len t, List.length_cons]; show 2 + _ = _; omega
structure SgOK (s : Sgr) : Prop where
  tg : okS s.tag
  ss : SSOK s.R s.Ss s.xs
  ok : ∀ x ∈ s.xs, ∀ t ∈ x, t.size ≤ 2000000000
structure SgsOK (R : RowS) (l : List Sgr) : Prop where
  row : rowOK 2 R l.length (sgC l)
  sub : ∀ s ∈ l, SgOK s
theorem okS_2 {t : ByteArray} (h : t.size ≤ 2000000000) : okS t := by unfold okS; omega
theorem SgsOK.nil : SgsOK none [] := ⟨rowOK_nil, fun s h => by cases h⟩
theorem SgsOK.snoc {R R' : RowS} {l : List Sgr} {s : Sgr} (h : SgsOK R l) (hr : rowOK 2 R' (l.length + 1) (sgC l ++ s.cells)) (hs : SgOK s) : SgsOK R' (l ++ [s]) where
  row := by rw [sgC_app, sgC_cons, sgC_nil, List.append_nil]; simpa using hr
  sub := fun x hx => by
    rcases List.mem_append.1 hx with hx | hx
    · exact h.sub x hx
    · rw [List.mem_singleton.1 hx]; exact hs
theorem SgOK.rd {s : Sgr} {D : Nat → Prop} {w : World} {own : List (Nat × Obj)} {ro : List Snap} {e1 e2 : TypeId} (h : SgOK s) (hm : Mem w own ro) (hS : ∀ p ∈ s.own e1 e2, p ∈ own) (hD : ∀ p ∈ own, D p.1) : tySeg.rd D w s.cells s.seg :=
  tySeg_mk rfl h.tg (h.ss.rd (eR := e1) (eS := e2) rfl (fun x hx t ht => okS_2 (h.ok x hx t ht)) hm (fun p hp => hS p (List.mem_append_right _ hp)) (fun p hp => hS p (List.mem_append_left _ hp)) (fun p hp => hD p (hS p (List.mem_append_right _ hp))) (fun p hp => hD p (hS p (List.mem_append_left _ hp))))
theorem SgsOK.rd {R : RowS} {l : List Sgr} {D : Nat → Prop} {w : World} {own : List (Nat × Obj)} {ro : List Snap} {e0 e1 e2 : TypeId} {n : Nat} (h : SgsOK R l) (hn : n = l.length) (hm : Mem w own ro) (hR : ∀ p ∈ rowO e0 R, p ∈ own)
    (hS : ∀ s ∈ l, ∀ p ∈ s.own e1 e2, p ∈ own) (hD : ∀ p ∈ own, D p.1) : sliceRd tySeg D w (rowV R n) (l.map Sgr.seg) := by
  have hT : RowT tySeg D w R (l.map Sgr.seg) := by
    refine ⟨l.map Sgr.cells, by simp, ?_, fun j h1 h2 => ?_⟩
    · rw [List.length_map, ← List.flatMap_def]; exact h.row
    · rw [List.getElem_map, List.getElem_map]
      have hj : j < l.length := by simpa using h1
      exact (h.sub _ (List.getElem_mem hj)).rd hm (hS _ (List.getElem_mem hj)) hD
  exact hT.rd hm hR (fun _ h => h) (fun p hp => hD p (hR p hp)) (by rw [List.length_map]; exact hn)
theorem SgsOK.big {R : RowS} {l : List Sgr} (h : SgsOK R l) : ∀ x ∈ l.map Sgr.seg, ∀ y ∈ x.els, ∀ s ∈ y, s.size ≤ 2000000000 := fun x hx => by
  obtain ⟨s, hs, rfl⟩ := List.mem_map.1 hx
  exact (h.sub s hs).ok
theorem split_at {α : Type} {l : List α} {n : Nat} (h : n < l.length) : ∃ a x b, l = a ++ x :: b ∧ a.length = n :=
  ⟨l.take n, l[n], l.drop (n + 1), by rw [List.getElem_cons_drop]; simp, by rw [List.length_take]; omega⟩
theorem SgsOK.row_is {R : RowS} {l : List Sgr} (h : SgsOK R l) (hn : 0 < l.length) : ∃ b cs c, R = some (b, cs, c) ∧ cs.length = c * 2 ∧ l.length ≤ c ∧ c ≤ maxLen ∧ cs.take (l.length * 2) = sgC l := by
  obtain ⟨h1, h2⟩ := h.row
  cases R with
  | none => simp only at h2; omega
  | some x => obtain ⟨b, cs, c⟩ := x; obtain ⟨h3, h4, h5, h6⟩ := h2; exact ⟨b, cs, c, rfl, h5, h3, h4, h6⟩
section
variable {b c : Nat} {cs : List Value} {A B : List Sgr} {s s' : Sgr}
theorem SgsOK.at2 (h : SgsOK (some (b, cs, c)) (A ++ s :: B)) : cs[A.length * 2]? = some (.string s.tag) ∧ cs[A.length * 2 + 1]? = some (rowV s.R s.xs.length) ∧ A.length * 2 + 2 ≤ cs.length := by
  obtain ⟨_, h3, h4, h5, h6⟩ := h.row
  dsimp only at h3 h4 h5 h6
  have hl := congrArg List.length h6
  rw [sgC_len, List.length_take, List.length_append, List.length_cons] at hl
  have hg : ∀ i, i < 2 → cs[A.length * 2 + i]? = s.cells[i]? := fun i hi => by
    have e1 : (cs.take ((A ++ s :: B).length * 2))[A.length * 2 + i]? = cs[A.length * 2 + i]? := by
      rw [List.getElem?_take_of_lt (by rw [List.length_append, List.length_cons]; omega)]
    rw [← e1, h6, sgC_app, List.getElem?_append_right (by rw [sgC_len]; omega), sgC_len, show A.length * 2 + i - A.length * 2 = i by omega, sgC_cons, List.getElem?_append_left (by show i < 2; exact hi)]
  exact ⟨hg 0 (by omega), hg 1 (by omega), by omega⟩
theorem SgsOK.all_set (h : SgsOK (some (b, cs, c)) (A ++ s :: B)) (hs : SgOK s') : ∀ x ∈ A ++ s' :: B, SgOK x := fun x hx => by
  rcases List.mem_append.1 hx with hx | hx
  · exact h.sub x (List.mem_append_left _ hx)
  · rcases List.mem_cons.1 hx with rfl | hx
    · exact hs
    · exact h.sub x (List.mem_append_right _ (List.mem_cons_of_mem _ hx))
/-- The segment in the middle is another one. -/
theorem SgsOK.put {cs' : List Value} (h : SgsOK (some (b, cs, c)) (A ++ s :: B)) (hs : SgOK s') (he : cs' = cs.take (A.length * 2) ++ s'.cells ++ cs.drop (A.length * 2 + 2)) : SgsOK (some (b, cs', c)) (A ++ s' :: B) := by
  refine ⟨?_, h.all_set hs⟩
  obtain ⟨_, h3, h4, h5, h6⟩ := h.row
  dsimp only at h3 h4 h5 h6
  have h2 := h.at2.2.2
  have hl : (A ++ s' :: B).length = (A ++ s :: B).length := by simp
  have hl2 : (A ++ s :: B).length = A.length + 1 + B.length := by simp; omega
  have hsz : s'.cells.length = 2 := rfl
  have hsz0 : s.cells.length = 2 := rfl
  have e0 : cs.take (A.length * 2) = sgC A := by
    have := congrArg (List.take (A.length * 2)) h6
    rw [List.take_take, Nat.min_eq_left (by rw [hl2]; omega), sgC_app, List.take_left' (sgC_len A)] at this
    exact this
  have e2 : (cs.drop (A.length * 2 + 2)).take (B.length * 2) = sgC B := by
    have := congrArg (List.drop (A.length * 2 + 2)) h6
    rw [List.drop_take, sgC_app, sgC_cons, ← List.append_assoc, List.drop_left' (by rw [List.length_append, sgC_len, hsz0]), show (A ++ s :: B).length * 2 - (A.length * 2 + 2) = B.length * 2 by rw [hl2]; omega] at this
    exact this
  refine ⟨sgC_len _, by rw [hl]; exact h3, h4, ?_, ?_⟩
  · rw [he, List.length_append, List.length_append, hsz, List.length_take, List.length_drop]; show _ = c * 2; omega
  · show List.take _ cs' = _
    rw [hl, hl2, he, e0, sgC_app, sgC_cons, List.take_append, ← List.append_assoc]
    congr 1
    · exact List.take_of_length_le (by rw [List.length_append, sgC_len, hsz]; omega)
    · rw [List.length_append, sgC_len, hsz, show (A.length + 1 + B.length) * 2 - (A.length * 2 + 2) = B.length * 2 by omega]; exact e2
theorem put1 {k : Nat} {v : Value} (h : k < cs.length) : List.take k cs ++ [v] ++ List.drop (k + 1) cs = cs.set k v := by
  rw [List.set_eq_take_append_cons_drop, if_pos h]; simp
theorem put_str {k : Nat} {t : ByteArray} (h : k < cs.length) : List.take k cs ++ (Value.string t).cells.toList ++ List.drop (k + 1) cs = cs.set k (Value.string t) := put1 h
/-- Its elements are others. -/
theorem SgsOK.put_els {R' : RowS} {Ss' : List RowS} {xs' : List (List ByteArray)} (h : SgsOK (some (b, cs, c)) (A ++ s :: B)) (hs : SgOK ⟨s.tag, R', Ss', xs'⟩) :
    SgsOK (some (b, List.take (A.length * 2 + 1) cs ++ [rowV R' xs'.length] ++ List.drop (A.length * 2 + 1 + 1) cs, c)) (A ++ ⟨s.tag, R', Ss', xs'⟩ :: B) := h.put hs (by
  obtain ⟨h1, h2, h3⟩ := h.at2
  rw [List.take_add_one, h1]
  show _ = cs.take (A.length * 2) ++ [Value.string s.tag, rowV R' xs'.length] ++ _
  simp)
/-- Its tag is another one. -/
theorem SgsOK.put_tag {t : ByteArray} (h : SgsOK (some (b, cs, c)) (A ++ s :: B)) (ht : okS t) :
    SgsOK (some (b, List.take (A.length * 2) cs ++ [Value.string t] ++ List.drop (A.length * 2 + 1) cs, c)) (A ++ ⟨t, s.R, s.Ss, s.xs⟩ :: B) := h.put ⟨ht, (h.sub s (by simp)).ss, (h.sub s (by simp)).ok⟩ (by
  obtain ⟨h1, h2, h3⟩ := h.at2
  have hlt : A.length * 2 + 1 < cs.length := by omega
  rw [List.drop_eq_getElem_cons hlt, (List.getElem?_eq_some_iff.1 h2).2]
  show _ = cs.take (A.length * 2) ++ [Value.string t, rowV s.R s.xs.length] ++ _
  simp)
/-- It is left out. -/
theorem SgsOK.less (h : SgsOK (some (b, cs, c)) (A ++ s :: B)) : rowOK 2 (some (b, cs, c)) A.length (sgC A) ∧ ∀ j u, (sgC B)[j]? = some u → cs[(A.length + 1) * 2 + j]? = some u := by
  obtain ⟨_, h3, h4, h5, h6⟩ := h.row
  dsimp only at h3 h4 h5 h6
  have hl2 : (A ++ s :: B).length = A.length + 1 + B.length := by simp; omega
  have hsz0 : s.cells.length = 2 := rfl
  refine ⟨⟨sgC_len A, by dsimp only; omega, h4, h5, ?_⟩, fun j u hj => ?_⟩
  · have := congrArg (List.take (A.length * 2)) h6
    rw [List.take_take, Nat.min_eq_left (by rw [hl2]; omega), sgC_app, List.take_left' (sgC_len A)] at this
    exact this
  · have hjl := (List.getElem?_eq_some_iff.1 hj).1
    rw [sgC_len] at hjl
    have e1 : (cs.take ((A ++ s :: B).length * 2))[(A.length + 1) * 2 + j]? = cs[(A.length + 1) * 2 + j]? := List.getElem?_take_of_lt (by rw [hl2]; omega)
    rw [← e1, h6, sgC_app, sgC_cons, ← List.append_assoc, List.getElem?_append_right (by rw [List.length_append, sgC_len, hsz0]; omega), List.length_append, sgC_len, hsz0, show (A.length + 1) * 2 + j - (A.length * 2 + 2) = j by omega]
    exact hj
theorem SgsOK.out {R : RowS} (h : SgsOK (some (b, cs, c)) (A ++ s :: B)) (hr : rowOK 2 R (A.length + B.length) (sgC A ++ sgC B)) : SgsOK R (A ++ B) := by
  refine ⟨by rw [sgC_app, List.length_append]; exact hr, fun x hx => ?_⟩
  rcases List.mem_append.1 hx with hx | hx
  · exact h.sub x (List.mem_append_left _ hx)
  · exact h.sub x (List.mem_append_right _ (List.mem_cons_of_mem _ hx))
end
section
variable {b c : Nat} {cs : List Value} {As Bs : List RowS} {S S' : RowS} {as bs : List (List ByteArray)} {x x' : List ByteArray} {R : RowS}
theorem SSOK.split {Ss : List RowS} {xs : List (List ByteArray)} (h : SSOK R Ss xs) {i : Nat} (hi : i < xs.length) : ∃ as x bs As S Bs, xs = as ++ x :: bs ∧ Ss = As ++ S :: Bs ∧ as.length = i ∧ As.length = i := by
  obtain ⟨as, x, bs, e1, e2⟩ := split_at hi
  obtain ⟨As, S, Bs, e3, e4⟩ := split_at (l := Ss) (n := i) (by rw [h.len]; exact hi)
  exact ⟨as, x, bs, As, S, Bs, e1, e3, e2, e4⟩
theorem SSOK.row_is {Ss : List RowS} {xs : List (List ByteArray)} (h : SSOK R Ss xs) (hn : 0 < xs.length) : ∃ b cs c, R = some (b, cs, c) := by
  obtain ⟨h1, h2⟩ := h.row
  cases R with
  | none => simp only at h2; omega
  | some x => obtain ⟨b, cs, c⟩ := x; exact ⟨b, cs, c, rfl⟩
theorem SSOK.atM (h : SSOK (some (b, cs, c)) (As ++ S :: Bs) (as ++ x :: bs)) (hl : As.length = as.length) : cs[as.length]? = some (rowV S x.length) ∧ rowOK 1 S x.length (x.map Value.string) := by
  obtain ⟨_, h3, h4, h5, h6⟩ := h.row
  dsimp only at h3 h4 h5 h6
  refine ⟨?_, ?_⟩
  · have e1 : (cs.take ((as ++ x :: bs).length * 1))[as.length]? = cs[as.length]? := List.getElem?_take_of_lt (by rw [List.length_append, List.length_cons]; omega)
    rw [← e1, h6]
    unfold ssC
    rw [List.zipWith_append hl.symm, List.getElem?_append_right (by rw [List.length_zipWith, hl, Nat.min_self]; exact Nat.le_refl _), List.length_zipWith, hl, Nat.min_self, Nat.sub_self]
    rfl
  · have := h.sub as.length (by rw [List.length_append, List.length_cons, hl]; omega) (by rw [List.length_append, List.length_cons]; omega)
    rw [List.getElem_append_right (by omega)] at this
    simp only [List.getElem_append_right (Nat.le_refl _)] at this
    simpa [hl] using this
/-- One row of texts is another one, of the same length. -/
theorem SSOK.setM (h : SSOK R (As ++ S :: Bs) (as ++ x :: bs)) (hl : As.length = as.length) (hs : rowOK 1 S' x'.length (x'.map Value.string)) (hv : rowV S' x'.length = rowV S x.length) : SSOK R (As ++ S' :: Bs) (as ++ x' :: bs) where
  len := by have := h.len; simpa using this
  row := by
    have e : ssC (as ++ x' :: bs) (As ++ S' :: Bs) = ssC (as ++ x :: bs) (As ++ S :: Bs) := by
      unfold ssC
      rw [List.zipWith_append hl.symm, List.zipWith_append hl.symm, List.zipWith_cons_cons, List.zipWith_cons_cons, hv]
    rw [e]
    have := h.row
    simpa using this
  sub := fun j h1 h2 => by
    have q := h.sub j (by simpa using h1) (by simpa using h2)
    rcases Nat.lt_trichotomy j as.length with hj | rfl | hj
    · rw [List.getElem_append_left (by omega)] at q ⊢
      simp only [List.getElem_append_left hj] at q ⊢
      exact q
    · rw [List.getElem_append_right (by omega)]
      simp only [List.getElem_append_right (Nat.le_refl _)]
      simpa [hl] using hs
    · rw [List.getElem_append_right (by omega)] at q ⊢
      simp only [List.getElem_append_right (show as.length ≤ j by omega)] at q ⊢
      obtain ⟨k, hk⟩ : ∃ k, j - as.length = k + 1 := ⟨j - as.length - 1, by omega⟩
      simp only [hl, hk, List.getElem_cons_succ] at q ⊢
      exact q
end
theorem row_set {b c : Nat} {cs : List Value} {x : List ByteArray} {k : Nat} {t : ByteArray} (h : rowOK 1 (some (b, cs, c)) x.length (x.map Value.string)) (hk : k < x.length) : rowOK 1 (some (b, cs.set k (Value.string t), c)) (x.set k t).length ((x.set k t).map Value.string) := by
  obtain ⟨h1, h2, h3, h4, h5⟩ := h
  dsimp only at h2 h3 h4 h5
  refine ⟨by simp, by simpa using h2, h3, by simpa using h4, ?_⟩
  dsimp only
  rw [List.length_set, List.take_set, h5, List.map_set]
theorem row_cell {S : RowS} {x : List ByteArray} (h : rowOK 1 S x.length (x.map Value.string)) (hk : 0 < x.length) : ∃ b cs c, S = some (b, cs, c) ∧ x.length ≤ cs.length := by
  obtain ⟨h1, h2⟩ := h
  cases S with
  | none => simp only at h2; omega
  | some y => obtain ⟨b, cs, c⟩ := y; obtain ⟨h3, h4, h5, h6⟩ := h2; exact ⟨b, cs, c, rfl, by dsimp only at h3 h5; omega⟩
/-- A text of a segment is another one. -/
theorem SgOK.text {s : Sgr} {R : RowS} {As Bs : List RowS} {S' : RowS} {as bs : List (List ByteArray)} {x : List ByteArray} {k : Nat} {t : ByteArray} (h : SgOK s) (hs : SSOK R (As ++ S' :: Bs) (as ++ x.set k t :: bs)) (ho : s.xs = as ++ x :: bs) (ht : t.size ≤ 2000000000) : SgOK ⟨s.tag, R, As ++ S' :: Bs, as ++ x.set k t :: bs⟩ := by
  refine ⟨h.tg, hs, fun y hy u hu => ?_⟩
  have ok := h.ok
  rw [ho] at ok
  rcases List.mem_append.1 hy with hy | hy
  · exact ok y (List.mem_append_left _ hy) u hu
  · rcases List.mem_cons.1 hy with rfl | hy
    · rcases List.mem_or_eq_of_mem_set hu with hu | rfl
      · exact ok x (by simp) u hu
      · exact ht
    · exact ok y (List.mem_append_right _ (List.mem_cons_of_mem _ hy)) u hu
/-- A segment has one element more, of one text. -/
theorem SgOK.more {s : Sgr} {R' : RowS} {b : Nat} {t : ByteArray} (h : SgOK s) (hr : rowOK 1 R' (s.xs.length + 1) (ssC s.xs s.Ss ++ [Value.slice (some ⟨b, 0, none⟩) 1 1])) (ht : t.size ≤ 2000000000) : SgOK ⟨s.tag, R', s.Ss ++ [some (b, [Value.string t], 1)], s.xs ++ [[t]]⟩ :=
  ⟨h.tg, h.ss.snoc hr (rowOK_lit (b := b) (cs := [Value.string t]) (n := 1) rfl (by decide)), fun y hy u hu => by
    rcases List.mem_append.1 hy with hy | hy
    · exact h.ok y hy u hu
    · rw [List.mem_singleton.1 hy] at hu; rw [List.mem_singleton.1 hu]; exact ht⟩
theorem str_news {D : Nat → Prop} {w : World} {A : Option Addr} {m c : Nat} {x : List ByteArray} (h : sliceRd tyStr D w (.slice A m c) x) :
    (A = none → m = 0) ∧ ∀ a, A = some a → ∀ i u, (x.map Value.string)[i]? = some u → w.cell? (a.add i) = some u := by
  refine ⟨fun ha => (h.cells.choose_spec).2.2.2.2.1 ha, fun a ha i u hu => ?_⟩
  have hi : i < x.length := by have := (List.getElem?_eq_some_iff.1 hu).1; simpa using this
  obtain ⟨b, off, hA, _, hc, _⟩ := s_at h hi
  rw [hA] at ha
  injection ha with ha
  subst ha
  rw [List.getElem?_map, List.getElem?_eq_getElem hi] at hu
  injection hu with hu
  subst hu
  rw [mk_add]; exact hc
theorem all_str (x : List ByteArray) : (x.map Value.string).all (fun u => u.oneCell') = true := by rw [List.all_map]; exact List.all_eq_true.2 fun _ _ => rfl
theorem mem_mid {α : Type} {a b : List α} {x y z : α} (h : z ∈ a ++ x :: b) : z = x ∨ z ∈ a ++ y :: b := by
  rcases List.mem_append.1 h with h | h
  · exact .inr (List.mem_append_left _ h)
  · rcases List.mem_cons.1 h with h | h
    · exact .inl h
    · exact .inr (List.mem_append_right _ (List.mem_cons_of_mem _ h))
theorem mem_at {α : Type} {l : List α} {n : Nat} {x : α} (h : l[n]? = some x) : x ∈ l := List.mem_of_getElem? h
theorem SgsOK.atN {b c : Nat} {cs : List Value} {l : List Sgr} {n : Nat} {s : Sgr} (h : SgsOK (some (b, cs, c)) l) (hs : l[n]? = some s) : cs[n * 2]? = some (.string s.tag) ∧ cs[n * 2 + 1]? = some (rowV s.R s.xs.length) ∧ n * 2 + 2 ≤ cs.length := by
  obtain ⟨A, x, B, rfl, rfl⟩ := split_at (List.getElem?_eq_some_iff.1 hs).1
  rw [List.getElem?_append_right (Nat.le_refl _), Nat.sub_self] at hs
  injection hs with hs
  subst hs
  exact h.at2
/-- A segment is put in the place of another one. -/
theorem SgsOK.putN {b c : Nat} {cs : List Value} {l : List Sgr} {n : Nat} {s : Sgr} (h : SgsOK (some (b, cs, c)) l) (hn : n < l.length) (hs : SgOK s) : SgsOK (some (b, cs.take (n * 2) ++ s.cells ++ cs.drop (n * 2 + 2), c)) (l.set n s) := by
  obtain ⟨A, x, B, rfl, rfl⟩ := split_at hn
  rw [List.set_append_right _ _ (Nat.le_refl _), Nat.sub_self]
  exact h.put hs rfl
theorem in_put {l : List Sgr} {n : Nat} {s x : Sgr} (h : x ∈ l.set n s) : x ∈ l ∨ x = s := List.mem_or_eq_of_mem_set h
theorem mod_nat (q : Int) {m : Nat} (h : 0 < m) : ∃ n : Nat, q % (m : Int) = (n : Int) ∧ n < m := by
  have h1 := Int.emod_nonneg q (show (m : Int) ≠ 0 by omega)
  have h2 := Int.emod_lt_of_pos q (show (0 : Int) < (m : Int) by omega)
  exact ⟨(q % (m : Int)).toNat, by omega, by omega⟩
theorem SgsOK.same {R : RowS} {A B : List Sgr} {s s' : Sgr} (h : SgsOK R (A ++ s :: B)) (hs : SgOK s') (he : s'.cells = s.cells) : SgsOK R (A ++ s' :: B) := by
  refine ⟨?_, fun x hx => ?_⟩
  · have e : sgC (A ++ s' :: B) = sgC (A ++ s :: B) := by rw [sgC_app, sgC_app, sgC_cons, sgC_cons, he]
    have e2 : (A ++ s' :: B).length = (A ++ s :: B).length := by simp
    rw [e, e2]; exact h.row
  · rcases mem_mid (y := s) hx with rfl | hx
    · exact hs
    · exact h.sub x hx
theorem sgC_one (l : List Sgr) : (sgC l).all (fun u => u.oneCell') = true := by
  unfold sgC
  rw [List.all_flatMap]
  exact List.all_eq_true.2 fun _ _ => rfl
theorem del_news {w : World} {own : List (Nat × Obj)} {ro : List Snap} {e : TypeId} {b c : Nat} {cs : List Value} {A B : List Sgr} {s : Sgr} (h : SgsOK (some (b, cs, c)) (A ++ s :: B)) (hm : Mem w own ro) (hin : (b, Obj.cells cs.toArray e) ∈ own) :
    ∀ a, (if c = A.length + 1 then some (⟨b, 0, none⟩ : Addr) else (some (⟨b, 0, none⟩ : Addr)).map (fun a => a.add ((A.length + 1) * 2))) = some a → ∀ j u, (sgC B)[j]? = some u → w.cell? (a.add j) = some u := by
  intro a ha j u hu
  have hj := (List.getElem?_eq_some_iff.1 hu).1
  rw [sgC_len] at hj
  obtain ⟨_, h3, _⟩ := h.row
  dsimp only at h3
  rw [List.length_append, List.length_cons] at h3
  rw [if_neg (by omega)] at ha
  injection ha with ha
  subst ha
  show w.cell? (((⟨b, 0, none⟩ : Addr).add ((A.length + 1) * 2)).add j) = some u
  rw [mk_add, mk_add, Nat.zero_add]
  exact at_ownL (ro := ro) (vs := cs) hin (h.less.2 j u hu) w hm
end Go.PK

/- Of the proofs of YtbamklefagghcaaGreatDoor; see NOTES.md. -/
/-! 'append' onto a full slice of whatever memory: it is copied. -/
namespace Go.PK
open Go Go.RowKit
set_option linter.unusedVariables false
section
variable {P : Program} {n : Nat} {l : List (Nat × Value)} {own : List (Nat × Obj)} {ro : List Snap} {lops : List Oper} {Q : Exit → Act → World → Prop} {K : Act → World → Prop}
  {rest : List (Option Bool × Nat)} {k : Option Bool} {i d : Nat} {op : Op} {ty : TypeId} {pos : String} {af : Array Edge} {x y z' : Operand} {t : TypeId}
end
end Go.PK

/- Of the proofs of YtbamklefagghcaaGreatDoor; see NOTES.md. -/
/-! A slice that a call has made, as cells; two lists of orders side by side. -/
namespace Go.PK
open Go Go.RowKit
set_option linter.unusedVariables false
end Go.PK

/- Of the proofs of YtbamklefagghcaaGreatDoor; see NOTES.md. -/
/-! Orders and invoices have few segments, elements and texts. -/
namespace Go.PK
open Go Go.RowKit
set_option linter.unusedVariables false
def fewE (x : Seg) : Prop := x.els.length ≤ 100 ∧ ∀ y ∈ x.els, y.length ≤ 100
def fewS (l : List Seg) : Prop := l.length ≤ 10000 ∧ ∀ x ∈ l, fewE x
theorem order_few (o : Ord) : fewS (orderR o) := by
  unfold orderR
  by_cases h : writB o = true
  · rw [if_pos h, orderP_X (wrO_nn ((writB_iff o).1 h))]
    unfold orderX fewS fewE
    simp only [List.forall_mem_cons, List.not_mem_nil, false_imp_iff, implies_true, and_true, List.length_cons, List.length_nil]
    decide
  · rw [if_neg h]; exact ⟨Nat.zero_le _, fun x hx => by cases hx⟩
theorem linesX_few : ∀ (ls : List Ord) (j : Nat), ∀ x ∈ linesX j ls, fewE x
  | [], _ => fun x hx => by cases hx
  | o :: t, j => fun x hx => by
    have hx : x ∈ inv4 j o ++ linesX (j + 1) t := hx
    rcases List.mem_append.1 hx with h1 | h1
    · have hh : ∀ x ∈ inv4 j o, fewE x := by
        unfold inv4 fewE
        simp only [List.forall_mem_cons, List.not_mem_nil, false_imp_iff, implies_true, and_true, List.length_cons, List.length_nil]
        decide
      exact hh x h1
    · exact linesX_few t (j + 1) x h1
theorem inv_few (ls : List Ord) : fewS (invR ls) := by
  unfold invR
  by_cases h : payP ls
  · rw [if_pos h]
    obtain ⟨h1, h2, h3⟩ := id h
    refine ⟨by rw [withX_len]; omega, fun x hx => ?_⟩
    unfold withX at hx
    rcases List.mem_append.1 hx with hx | hx
    · rcases List.mem_append.1 hx with hx | hx
      · have hh : ∀ x ∈ headX, fewE x := by
          unfold headX fewE
          simp only [List.forall_mem_cons, List.not_mem_nil, false_imp_iff, implies_true, and_true, List.length_cons, List.length_nil]
          decide
        exact hh x hx
      · exact linesX_few ls 0 x hx
    · have hh : ∀ x ∈ tailX ls.length (itoaS (totalP ls)), fewE x := by
        unfold tailX fewE
        simp only [List.forall_mem_cons, List.not_mem_nil, false_imp_iff, implies_true, and_true, List.length_cons, List.length_nil]
        decide
      exact hh x hx
  · rw [if_neg h]; exact ⟨Nat.zero_le _, fun x hx => by cases hx⟩
theorem head_row {w : World} {R : RowS} {xs : List Ord} (hT : RowT tyOrd (fun _ => False) w R xs) (h : 0 < xs.length) : ∃ (b : Nat) (cs : List Value) (c : Nat) (o : Ord), R = some (b, cs, c) ∧ 9 ≤ cs.length ∧ (∀ i (hi : i < 9), cs[i]? = some (o.cells[i]'hi)) ∧ o.okA := by
  obtain ⟨css, h1, ⟨h2, h4⟩, h3⟩ := hT
  have h0 := h3 0 (by omega) h
  have hlen : ∀ k (hk : k < css.length), css[k].length = tyOrd.size := fun k hk => tyOrd.len (h3 k hk (by omega))
  cases R with
  | none => simp only at h4; omega
  | some x =>
    obtain ⟨b, cs, c⟩ := x
    obtain ⟨h5, h6, h7, h8⟩ := h4
    dsimp only at h5 h6 h7 h8
    have h7 : cs.length = c * 9 := h7
    refine ⟨b, cs, c, xs[0], rfl, by omega, fun i hi => ?_, h0.2⟩
    have hf := flatten_get css hlen 0 (by omega) i hi
    rw [h0.1, Nat.zero_mul, Nat.zero_add] at hf
    have hf2 : css.flatten[i]? = some (xs[0].cells[i]'hi) := hf.trans (List.getElem?_eq_getElem hi)
    exact (List.getElem?_take_of_lt (show i < xs.length * 9 by omega)).symm.trans ((congrArg (fun l => l[i]?) h8).trans hf2)
def fund3 (o : Ord) : Ord := { o with fund := 3 }
theorem fund3_at {cs : List Value} {o : Ord} (hl : 9 ≤ cs.length) (h : ∀ i (hi : i < 9), cs[i]? = some (o.cells[i]'hi)) : ∀ i (hi : i < 9), (cs.set 1 (Value.int .i64 3))[i]? = some ((fund3 o).cells[i]'hi) := fun i hi => by
  match i, hi with
  | 0, _ => rw [List.getElem?_set_ne (by decide)]; exact h 0 (by decide)
  | 1, _ => rw [List.getElem?_set_self (by omega)]; rfl
  | 2, _ => rw [List.getElem?_set_ne (by decide)]; exact h 2 (by decide)
  | 3, _ => rw [List.getElem?_set_ne (by decide)]; exact h 3 (by decide)
  | 4, _ => rw [List.getElem?_set_ne (by decide)]; exact h 4 (by decide)
  | 5, _ => rw [List.getElem?_set_ne (by decide)]; exact h 5 (by decide)
  | 6, _ => rw [List.getElem?_set_ne (by decide)]; exact h 6 (by decide)
  | 7, _ => rw [List.getElem?_set_ne (by decide)]; exact h 7 (by decide)
  | 8, _ => rw [List.getElem?_set_ne (by decide)]; exact h 8 (by decide)
theorem fund3_ok {o : Ord} (h : o.okA) : (fund3 o).okA := by
  obtain ⟨⟨h1, h2, h3, h4, h5, h6⟩, h7, h8, h9⟩ := h
  exact ⟨⟨h1, (by unfold in64; decide : in64 (3 : Int)), h3, h4, h5, h6⟩, h7, h8, h9⟩
theorem seg1_row {w : World} {b : Nat} {t : ByteArray} (ht : okS t) : RowT tySeg (fun _ => False) w (some (b, [Value.string t, .slice none 0 0], 1)) [⟨t, []⟩] :=
  ⟨[[Value.string t, .slice none 0 0]], rfl, rowOK_lit (b := b) (cs := [Value.string t, .slice none 0 0]) (n := 1) rfl (by decide), fun j h1 h2 => by
    match j, h1 with
    | 0, _ => exact tySeg_mk rfl ht ⟨none, 0, rfl, Nat.le_refl _, Nat.zero_le _, fun h => absurd h (Nat.not_lt_zero _)⟩⟩
theorem nil_rd {α : Type} (T : Ty α) (D : Nat → Prop) (w : World) : sliceRd T D w (.slice none 0 0) [] := ⟨none, 0, rfl, Nat.le_refl _, Nat.zero_le _, fun h => absurd h (Nat.not_lt_zero _)⟩
theorem rows3 {α : Type} {T : Ty α} {D : Nat → Prop} {w : World} {b : Nat} {v1 v2 v3 : Value} {x1 x2 x3 : List α} (h1 : sliceRd T D w v1 x1) (h2 : sliceRd T D w v2 x2) (h3 : sliceRd T D w v3 x3) : RowT (tySlice T) D w (some (b, [v1, v2, v3], 3)) [x1, x2, x3] :=
  ⟨[[v1], [v2], [v3]], rfl, rowOK_lit (b := b) (cs := [v1, v2, v3]) (n := 3) rfl (by decide), fun j h4 h5 => by
    match j, h4 with
    | 0, _ => exact ⟨_, rfl, h1⟩
    | 1, _ => exact ⟨_, rfl, h2⟩
    | 2, _ => exact ⟨_, rfl, h3⟩⟩
/-- What a callee hands over as its caller's own, beside what was it before. -/
theorem Mem.join2 {w1 w2 : World} {own1 own2 : List (Nat × Obj)} {ro : List Snap} (h1 : Mem w1 own1 ro) (h2 : Mem w2 own2 [(w1, fun _ => True)]) : Mem w2 (own2 ++ own1) ro where
  own_at := fun p hp => by
    rcases List.mem_append.1 hp with hp | hp
    · exact h2.own_at p hp
    · exact (h2.ro_at _ (.head _) p.1 trivial (h1.lt hp)).trans (h1.own_at p hp)
  own_nd := by
    rw [List.map_append, List.nodup_append]
    refine ⟨h2.own_nd, h1.own_nd, fun a ha b hb e => ?_⟩
    obtain ⟨p, hp, rfl⟩ := List.mem_map.1 ha
    obtain ⟨q, hq, rfl⟩ := List.mem_map.1 hb
    have a1 := h2.apart p hp _ (.head _) trivial
    have a2 := h1.lt hq
    simp only at a1; omega
  ro_st := (h1.join h2).ro_st
  ro_at := (h1.join h2).ro_at
  apart := fun p hp s hs hd => by
    rcases List.mem_append.1 hp with hp | hp
    · exact (h1.join h2).apart p hp s hs hd
    · exact h1.apart p hp s hs hd
end Go.PK

/- Of the proofs of YtbamklefagghcaaGreatDoor; see NOTES.md. -/
/-! Small arrays among the arguments of a law. -/
namespace Go.PK
open Go Go.RowKit
set_option linter.unusedVariables false
section
variable {P : Program} {H : Type} {enc : TypeId × Value → H} {W : World} {base b0 : Nat} {sp : Nat → Bool} {held : Bool} {r : Reach} {t e : TypeId} {v : Value} {d : DataW H} {ps : List MemPlace}
theorem top_kn {k : IntKind} {n : Nat} (ht : P.underlying t = some (.array n e)) (hc : P.cellsOf t = n) (hn : 0 < n) (he : P.underlying e = some (.int k)) (hce : P.cellsOf e = 1) (hval : Value.okWide P W r b0 t v) (h : DataW.Trod enc P W base sp held t v d ps) :
    ∃ xs : List Int, v = .agg (xs.map (Value.int k)).toArray ∧ xs.length = n ∧ ∀ x ∈ xs, k.min ≤ x ∧ x ≤ k.max := by
  obtain ⟨cs, xs, rfl, hrd⟩ := top_agg ht rfl (rdr_arr (T := tyK k) ht (by rw [hc]; exact (Nat.mul_one n).symm) hn (rdr_k he hce)) hval h
  obtain ⟨h1, h2, h3⟩ := arr_k hrd
  exact ⟨xs, by rw [← h1], h2, h3⟩
theorem top_k4 {k : IntKind} (ht : P.underlying t = some (.array 4 e)) (hc : P.cellsOf t = 4) (he : P.underlying e = some (.int k)) (hce : P.cellsOf e = 1) (hval : Value.okWide P W r b0 t v) (h : DataW.Trod enc P W base sp held t v d ps) :
    ∃ a b c f : Int, v = .agg #[.int k a, .int k b, .int k c, .int k f] ∧ (k.min ≤ a ∧ a ≤ k.max) ∧ (k.min ≤ b ∧ b ≤ k.max) ∧ (k.min ≤ c ∧ c ≤ k.max) ∧ k.min ≤ f ∧ f ≤ k.max := by
  obtain ⟨xs, rfl, hl, hx⟩ := top_kn ht hc (by decide) he hce hval h
  match xs, hl with
  | [a, b, c, f], _ => exact ⟨a, b, c, f, rfl, hx a (by simp), hx b (by simp), hx c (by simp), hx f (by simp)⟩
end
end Go.PK

/- Of the proofs of YtbamklefagghcaaGreatDoor; see NOTES.md. -/
/-! Readers under a bound on the bulk. -/
namespace Go.PK
open Go Go.ChangeShapes Go.WideShapes Go.ChangeAt Go.RowKit
set_option linter.unusedVariables false
/-- A measure of readings. -/
structure Meas (H : Type) where
  f : DataW H → Nat
  all : List (DataW H) → Nat
  str : ∀ bs, f (.lit (.string bs)) = bs.length + 1
  slice : ∀ es sp, f (.slice es sp) = all es + all sp + 1
  agg : ∀ ps, f (.agg ps) = all ps + 1
  cons : ∀ d r, all (d :: r) = f d + all r
  one : ∀ d, 1 ≤ f d
theorem Meas.mem_le {H : Type} (M : Meas H) : ∀ {l : List (DataW H)} {d : DataW H}, d ∈ l → M.f d ≤ M.all l
  | x :: r, d, h => by
    rw [M.cons]
    rcases List.mem_cons.1 h with rfl | h
    · omega
    · have := M.mem_le h; omega
theorem Meas.len_le {H : Type} (M : Meas H) : ∀ (l : List (DataW H)), l.length ≤ M.all l
  | [] => Nat.zero_le _
  | x :: r => by
    rw [M.cons, List.length_cons]
    have h1 := M.len_le r
    have h2 := M.one x
    omega
structure RdrN {α : Type} (P : Program) (t : TypeId) (T : Ty α) (N : Nat) : Prop where
  size : P.cellsOf t = T.size
  pos : 0 < T.size
  rd : ∀ {H : Type} {enc : TypeId × Value → H} {w : World} {base : Nat} {sp : Nat → Bool} {held : Bool} {fuel : Nat} {cs : List Value} {x : DataW H × List MemPlace} (M : Meas H), M.f x.1 ≤ N → DataW.trod enc P w base sp held fuel t cs = some x → ∃ y, T.rd (fun _ => True) w cs y
theorem Rdr.N {α : Type} {P : Program} {t : TypeId} {T : Ty α} {N : Nat} (R : Rdr P t T) : RdrN P t T N := ⟨R.size, R.pos, fun _ _ h => R.rd h⟩
def tyStrN (N : Nat) : Ty ByteArray where
  size := 1
  rd := fun _ _ cs x => cs = [.string x] ∧ x.size ≤ N
  len := fun h => by rw [h.1]; rfl
  keep := fun h _ => h
def tySliceN {α : Type} (T : Ty α) (N : Nat) : Ty (List α) where
  size := 1
  rd := fun D w cs xs => ∃ v, cs = [v] ∧ sliceRd T D w v xs ∧ xs.length ≤ N
  len := fun ⟨v, h, _⟩ => by rw [h]; rfl
  keep := fun ⟨v, h, h2, h3⟩ hk => ⟨v, h, h2.keep hk, h3⟩
section
variable {P : Program} {H : Type} {enc : TypeId × Value → H}
end
section
variable {H : Type} {enc : TypeId × Value → H} {P : Program} {W : World} {base b0 : Nat} {sp : Nat → Bool} {held : Bool} {r : Reach} {t e : TypeId} {v : Value} {d : DataW H} {ps : List MemPlace}
theorem top_strN {N : Nat} (ht : P.underlying t = some .string) (M : Meas H) (hM : M.f d ≤ N) (hval : Value.okWide P W r b0 t v) (h : DataW.Trod enc P W base sp held t v d ps) : ∃ s, v = .string s ∧ s.size ≤ N := by
  obtain ⟨n, hn⟩ := h
  obtain ⟨s, hs, hx, hw⟩ := DataW.trod_string ht hn
  have : v = .string s := by
    cases v <;> simp_all [Value.okWide, Cell.okWide, Cell.ok, Value.cells]
  subst this
  have hx : d = .lit (.string s.data.toList) := congrArg Prod.fst hx
  subst hx
  rw [M.str] at hM
  have e : s.data.toList.length = s.size := by rw [Array.length_toList]; rfl
  exact ⟨s, rfl, by omega⟩
theorem sliceRd.each {α : Type} {T : Ty α} {D : Nat → Prop} {v : Value} {xs : List α} {w : World} (h : sliceRd T D w v xs) {Q : α → Prop} (hT : ∀ cs x, T.rd D w cs x → Q x) : ∀ x ∈ xs, Q x := by
  intro x hx
  obtain ⟨A, c, h1, h2, h3, h4⟩ := h
  obtain ⟨b, off, e, hD, hb, hc⟩ := h4 (List.length_pos_of_mem hx)
  obtain ⟨j, hj, rfl⟩ := List.getElem_of_mem hx
  obtain ⟨cs, k1, k2⟩ := hc j hj
  exact hT _ _ k2
end
end Go.PK

/- Of the proofs of YtbamklefagghcaaGreatDoor; see NOTES.md. -/
/-! What an order reads as. -/
namespace Go.PK
open Go Go.RowKit
set_option linter.unusedVariables false
theorem rdr_conv {α β : Type} {P : Program} {t : TypeId} {U : Ty β} {T : Ty α} (hs : U.size = T.size) (f : ∀ w cs y, U.rd (fun _ => True) w cs y → ∃ z, T.rd (fun _ => True) w cs z) (R : Rdr P t U) : Rdr P t T :=
  ⟨by rw [R.size, hs], by rw [← hs]; exact R.pos, fun h => by obtain ⟨y, hy⟩ := R.rd h; exact f _ _ y hy⟩
abbrev tyRecU : Ty (Int × Int × Unit) := tyCons tyI (tyCons tyI tyNil)
abbrev tyOrdU : Ty (Int × Int × (Int × Int × Unit) × Int × Int × Int × Int × Int × Unit) := tyCons tyI (tyCons tyI (tyCons tyRecU (tyCons tyI (tyCons tyI (tyCons tyI (tyCons tyI (tyCons tyI tyNil)))))))
theorem ord_conv (w : World) (cs : List Value) (y : Int × Int × (Int × Int × Unit) × Int × Int × Int × Int × Int × Unit) (h : tyOrdU.rd (fun _ => True) w cs y) : ∃ o : Ord, tyOrd.rd (fun _ => True) w cs o := by
  obtain ⟨y1, y2, ⟨y3, y4, _⟩, y5, y6, y7, y8, y9, _⟩ := y
  obtain ⟨_, _, rfl, ⟨e1, k1⟩, _, _, rfl, ⟨e2, k2⟩, _, _, rfl, ⟨_, _, rfl, ⟨e3, k3⟩, _, _, rfl, ⟨e4, k4⟩, e4'⟩, _, _, rfl, ⟨e5, k5⟩, _, _, rfl, ⟨e6, k6⟩, _, _, rfl, ⟨e7, k7⟩, _, _, rfl, ⟨e8, k8⟩, _, _, rfl, ⟨e9, k9⟩, e9'⟩ := h
  dsimp only at e1 e2 e3 e4 e5 e6 e7 e8 e9 k1 k2 k3 k4 k5 k6 k7 k8 k9
  have e4' : _ = [] := e4'
  have e9' : _ = [] := e9'
  refine ⟨⟨y1, y2, y3, y4, y5, y6, y7, y8, y9⟩, ?_, ⟨k1, k2, k3, k4, k5, k6⟩, k7, k8, k9⟩
  rw [e1, e2, e3, e4, e5, e6, e7, e8, e9, e4', e9']; rfl
end Go.PK
