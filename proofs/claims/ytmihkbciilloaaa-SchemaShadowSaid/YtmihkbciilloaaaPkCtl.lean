/- Of the proofs of Ytmihkbciilloaaa; see NOTES.md. -/
import Derived.Test.YtmihkbciilloaaaPkOps3
namespace Go.PK
open Go Go.RowKit
set_option linter.unusedVariables false

def slots : Nat → List Value → List (Nat × Value)
  | _, [] => []
  | i, v :: vs => (i, v) :: slots (i + 1) vs
theorem slots_lookup : ∀ (vs : List Value) (i s : Nat) (v : Value), (slots i vs).lookup s = some v → i ≤ s ∧ vs[s - i]? = some v
  | [], _, _, _, h => by simp [slots] at h
  | u :: us, i, s, v, h => by
    simp only [slots, List.lookup_cons] at h
    by_cases hs : s = i
    · subst hs; simp at h; simp [h]
    · have : (s == i) = false := by simpa using hs
      simp only [this] at h
      obtain ⟨h1, h2⟩ := slots_lookup us (i + 1) s v h
      refine ⟨by omega, ?_⟩
      rw [show s - i = (s - (i + 1)) + 1 by omega]
      simpa using h2

section
variable {P : Program} {n : Nat} {l : List (Nat × Value)} {own : List (Nat × Obj)} {ro : List Snap} {Q : Exit → Act → World → Prop} {K : Act → World → Prop} {R : Ending → World → Prop} {fn : Func}

/-- A function is entered. -/
theorem enter {f : FuncId} {c : Code} {vs : List Value} {w : World} (hf : P.funcs[f]? = some fn) (hb : fn.body = some c) (hn : fn.ntmps = n) (hv : decide (vs.length ≤ n) = true)
    (h : W P c (bodyPost P fn R) n (slots 0 vs) [] [(w, fun _ => True)]) : Calls P f vs.toArray w R := by
  have hv' := of_decide_eq_true hv
  refine calls_of_wp hf hb (h _ w ⟨by simp [hn]; omega, rfl, fun s v hs => ?_⟩ (Mem.init w))
  obtain ⟨_, h2⟩ := slots_lookup _ _ _ _ hs
  simp only [Nat.sub_zero] at h2
  have hlt : s < vs.length := (List.getElem?_eq_some_iff.1 h2).1
  show (vs.toArray ++ _)[s]? = some v
  rw [Array.getElem?_append_left (by simpa using hlt)]
  simpa using h2

theorem t_ret {K : Act → World → Prop} (h : S (Q .ret) n l own ro) : S (Exit.then K Q .ret) n l own ro := h
theorem t_exit {K : Act → World → Prop} {id : Nat} (h : S (Q (.exit id)) n l own ro) : S (Exit.then K Q (.exit id)) n l own ro := h
theorem t_norm {y : Code} (h : W P y Q n l own ro) : S (Exit.then (y.wp P Q) Q .normal) n l own ro := h
theorem b_ret {id : Nat} (h : S (Q .ret) n l own ro) : S (Exit.inBlock id Q .ret) n l own ro := h
theorem b_norm {id : Nat} (h : S (Q .normal) n l own ro) : S (Exit.inBlock id Q .normal) n l own ro := h
theorem b_hit {id : Nat} (h : S (Q .normal) n l own ro) : S (Exit.inBlock id Q (.exit id)) n l own ro := fun a w ha hw => by
  simp only [Exit.inBlock, if_true]; exact h a w ha hw
theorem b_miss {id id' : Nat} (hne : decide (id' = id) = false) (h : S (Q (.exit id')) n l own ro) : S (Exit.inBlock id Q (.exit id')) n l own ro := fun a w ha hw => by
  simp only [Exit.inBlock, of_decide_eq_false hne, if_false]; exact h a w ha hw
/-- The end of a round. -/
theorem l_norm {σ : Type} {I : σ → Prop} {L : σ → List (Nat × Value)} {O : σ → List (Nat × Obj)} {Rr : σ → List Snap} {μ : σ → Nat} {x : σ} (x' : σ) (hI : I x') (hlt : μ x' < μ x) (hs : Sub (L x') l) (hm : ∀ w, Mem w own ro → Mem w (O x') (Rr x')) :
    S (Exit.then (fun a w => ∃ x', I x' ∧ μ x' < μ x ∧ FH n (L x') a ∧ Mem w (O x') (Rr x')) Q .normal) n l own ro :=
  fun a w ha hw => ⟨x', hI, hlt, ha.sub hs, hm w hw⟩
/-- The ways meet. -/
theorem w_seq_cut {σ : Type} {x y : Code} (I : σ → Prop) (L : σ → List (Nat × Value)) (O : σ → List (Nat × Obj)) (Rr : σ → List Snap)
    (h1 : W P x (Exit.then (fun a w => ∃ x', I x' ∧ FH n (L x') a ∧ Mem w (O x') (Rr x')) Q) n l own ro) (h2 : ∀ x', I x' → W P y Q n (L x') (O x') (Rr x')) : W P (.seq x y) Q n l own ro :=
  fun a w ha hw => wp_seq (wp_mono (h1 a w ha hw) fun e a' w' hq => by
    cases e with
    | normal => obtain ⟨x', h0, h3, h4⟩ := hq; exact h2 x' h0 a' w' h3 h4
    | exit _ => exact hq
    | goto _ => exact hq
    | ret => exact hq
    | panic _ => exact hq
    | outgrown => exact hq)
theorem c_norm {σ : Type} {I : σ → Prop} {L : σ → List (Nat × Value)} {O : σ → List (Nat × Obj)} {Rr : σ → List Snap} (x' : σ) (hI : I x') (hs : Sub (L x') l) (hm : ∀ w, Mem w own ro → Mem w (O x') (Rr x')) :
    S (Exit.then (fun a w => ∃ x', I x' ∧ FH n (L x') a ∧ Mem w (O x') (Rr x')) Q .normal) n l own ro :=
  fun a w ha hw => ⟨x', hI, ha.sub hs, hm w hw⟩
theorem l_start {L' : List (Nat × Value)} {O' : List (Nat × Obj)} {R' : List Snap} (hs : Sub L' l) (hm : ∀ w, Mem w own ro → Mem w O' R') : ∀ a w, FH n l a → Mem w own ro → FH n L' a ∧ Mem w O' R' :=
  fun a w ha hw => ⟨ha.sub hs, hm w hw⟩

/-! ## The end of a function -/
theorem ret1 {t : Tmp} {v : Value} (hr : fn.results = #[.tmp t]) (hv : l.lookup t = some v) (h : ∀ w', Mem w' own ro → R (.returned v) w') : S (bodyPost P fn R .ret) n l own ro := by
  intro a w ha hw
  refine ⟨ha.df, v, ?_, h w hw⟩
  have := ha.at_ t v hv
  rw [results_tmp hr]
  simp [Array.getD_eq_getD_getElem?, this]
theorem end1 {t : Tmp} {v : Value} (hr : fn.results = #[.tmp t]) (hv : l.lookup t = some v) (h : ∀ w', Mem w' own ro → R (.returned v) w') : S (bodyPost P fn R .normal) n l own ro := ret1 hr hv h
theorem ret2 {t u : Tmp} {v v' : Value} (hr : fn.results = #[.tmp t, .tmp u]) (hv : l.lookup t = some v) (hv' : l.lookup u = some v') (h : ∀ w', Mem w' own ro → R (.returned (.tuple #[v, v'])) w') : S (bodyPost P fn R .ret) n l own ro := by
  intro a w ha hw
  refine ⟨ha.df, _, ?_, h w hw⟩
  rw [results_tmp2 hr]
  simp [Array.getD_eq_getD_getElem?, ha.at_ t v hv, ha.at_ u v' hv']
theorem ret3 {t u s : Tmp} {v v' v'' : Value} (hr : fn.results = #[.tmp t, .tmp u, .tmp s]) (hv : l.lookup t = some v) (hv' : l.lookup u = some v') (hv'' : l.lookup s = some v'') (h : ∀ w', Mem w' own ro → R (.returned (.tuple #[v, v', v''])) w') : S (bodyPost P fn R .ret) n l own ro := by
  intro a w ha hw
  refine ⟨ha.df, _, ?_, h w hw⟩
  rw [results_tmp3 hr]
  simp [Array.getD_eq_getD_getElem?, ha.at_ t v hv, ha.at_ u v' hv', ha.at_ s v'' hv'']
theorem ret0 (hr : fn.results = #[]) (h : ∀ w', Mem w' own ro → R (.returned (.tuple #[])) w') : S (bodyPost P fn R .normal) n l own ro := by
  intro a w ha hw
  exact ⟨ha.df, _, results_none hr _ _ _, h w hw⟩
/-- A result that lies in a block of the call's own. -/
theorem retc {t : Tmp} {ty : TypeId} {td : TypeDesc} {b : Nat} {cs : Array Value} {e : TypeId} {fz : Nat × Nat} (hr : fn.results = #[.cell t ty]) (hv : l.lookup t = some (.pointer (some ⟨b, 0, none⟩))) (hb : (b, Obj.cells cs e fz) ∈ own)
    (ht : P.underlying ty = some td) (hd : aggT td = true) (hs : (P.info? ty).map (·.size) = some cs.size) (h : ∀ w', Mem w' own ro → R (.returned (.agg cs)) w') : S (bodyPost P fn R .ret) n l own ro := by
  intro a w ha hw
  refine ⟨ha.df, _, ?_, h w hw⟩
  exact results_cell_row hr a.tmps w b e cs fz td (by simp [Array.getD_eq_getD_getElem?, ha.at_ t _ hv]) (hw.own_at _ hb) ht (by cases td <;> simp_all [aggT]) hs

/-! ## Bools -/
theorem tdec {p : Prop} [Decidable p] : (true = decide p) = p := by simp
theorem fdec {p : Prop} [Decidable p] : (false = decide p) = ¬p := by simp
end
end Go.PK
