/- Of the proofs of Ytmihkbciilloaaa; see NOTES.md. -/
import Derived.Test.YtmihkbciilloaaaPkReg
import Derived.WalkKit
import Derived.WalkSpells
import Derived.WalkLawsBesides
namespace Go.PK
open Go Go.RowKit

/-! ## The frame, said of some slots -/
def ev (l : List (Nat × Value)) : Operand → Option Value
  | .tmp t => l.lookup t
  | .const v => some v
  | .global g => some (.pointer (some ⟨g, 0, none⟩))
  | .func f => some (.func (.func f) #[] #[])
def evs (l : List (Nat × Value)) : List Operand → Option (List Value)
  | [] => some []
  | x :: xs => match ev l x, evs l xs with
    | some v, some vs => some (v :: vs)
    | _, _ => none

structure FH (n : Nat) (l : List (Nat × Value)) (a : Act) : Prop where
  sz : a.tmps.size = n
  df : a.defers = []
  at_ : ∀ s v, l.lookup s = some v → a.tmps[s]? = some v

theorem FH.eval {n : Nat} {l : List (Nat × Value)} {a : Act} (h : FH n l a) {x : Operand} {v : Value} (hx : ev l x = some v) : a.eval x = v := by
  cases x with
  | tmp t => simp [Act.eval, h.at_ t v hx]
  | const u => simpa [ev, Act.eval] using hx
  | global g => simpa [ev, Act.eval] using hx
  | func f => simpa [ev, Act.eval] using hx
theorem FH.evals {n : Nat} {l : List (Nat × Value)} {a : Act} (h : FH n l a) : ∀ {xs : List Operand} {vs : List Value}, evs l xs = some vs → xs.map a.eval = vs
  | [], vs, hx => by simp [evs] at hx; simp [hx]
  | x :: xs, vs, hx => by
    simp only [evs] at hx
    split at hx
    · rename_i v us hv hus
      cases hx
      simp [h.eval hv, h.evals hus]
    · cases hx
theorem FH.put {n d : Nat} {l : List (Nat × Value)} {a : Act} (h : FH n l a) (v : Value) (hd : d < n) : FH n ((d, v) :: l) (a.put (some d) v) where
  sz := by simp [Act.put, h.sz]
  df := h.df
  at_ := fun s u hu => by
    simp only [List.lookup_cons] at hu
    by_cases hs : s = d
    · subst hs
      simp at hu
      subst hu
      simp [Act.put, h.sz, hd]
    · have : (s == d) = false := by simpa using hs
      simp only [this] at hu
      have hne : d ≠ s := fun e => hs e.symm
      simp only [Act.put]
      rw [Array.getElem?_setIfInBounds_ne hne]
      exact h.at_ s u hu
/-- Fewer slots. -/
def Sub (l' l : List (Nat × Value)) : Prop := ∀ s v, l'.lookup s = some v → l.lookup s = some v
theorem Sub.nil {l : List (Nat × Value)} : Sub [] l := fun s v h => by simp at h
theorem Sub.cons {l l' : List (Nat × Value)} {d : Nat} {v : Value} (h : l.lookup d = some v) (k : Sub l' l) : Sub ((d, v) :: l') l := fun s u hu => by
  simp only [List.lookup_cons] at hu
  by_cases hs : s = d
  · subst hs; simp at hu; subst hu; exact h
  · have : (s == d) = false := by simpa using hs
    simp only [this] at hu
    exact k s u hu
theorem Sub.refl (l : List (Nat × Value)) : Sub l l := fun _ _ h => h
theorem FH.sub {n : Nat} {l l' : List (Nat × Value)} {a : Act} (h : FH n l a) (k : Sub l' l) : FH n l' a := ⟨h.sz, h.df, fun s v hv => h.at_ s v (k s v hv)⟩

/-! ## The memory: blocks of the call's own, and worlds that are still there -/
abbrev Snap := World × (Nat → Prop)
structure Mem (w : World) (own : List (Nat × Obj)) (ro : List Snap) : Prop where
  own_at : ∀ p ∈ own, w.heap[p.1]? = some p.2
  own_nd : (own.map (·.1)).Nodup
  ro_st : ∀ s ∈ ro, w.os = s.1.os ∧ w.tape = s.1.tape ∧ w.output = s.1.output ∧ s.1.heap.size ≤ w.heap.size
  ro_at : ∀ s ∈ ro, ∀ k, s.2 k → k < s.1.heap.size → w.heap[k]? = s.1.heap[k]?
  apart : ∀ p ∈ own, ∀ s ∈ ro, s.2 p.1 → s.1.heap.size ≤ p.1

theorem heap_lt {w : World} {k : Nat} {o : Obj} (h : w.heap[k]? = some o) : k < w.heap.size := by
  rcases Nat.lt_or_ge k w.heap.size with h' | h'
  · exact h'
  · rw [Array.getElem?_eq_none h'] at h; cases h

section
variable {w w' : World} {own : List (Nat × Obj)} {ro : List Snap}
theorem Mem.later (h : Mem w own ro) (hl : Later w w') : Mem w' own ro where
  own_at := fun p hp => (hl.block p.1 (heap_lt (h.own_at p hp))).trans (h.own_at p hp)
  own_nd := h.own_nd
  ro_st := fun s hs => by
    obtain ⟨h1, h2, h3, h4⟩ := h.ro_st s hs
    exact ⟨hl.os.trans h1, hl.tape.trans h2, hl.output.trans h3, Nat.le_trans h4 hl.size⟩
  ro_at := fun s hs k hk hlt => (hl.block k (Nat.lt_of_lt_of_le hlt (h.ro_st s hs).2.2.2)).trans (h.ro_at s hs k hk hlt)
  apart := h.apart
theorem Mem.lt (h : Mem w own ro) {p : Nat × Obj} (hp : p ∈ own) : p.1 < w.heap.size := heap_lt (h.own_at p hp)
theorem Mem.new (h : Mem w own ro) (o : Obj) : Mem (w.alloc o) ((w.heap.size, o) :: own) ro where
  own_at := fun p hp => by
    rcases List.mem_cons.1 hp with rfl | hp
    · show (w.heap.push o)[w.heap.size]? = some o
      simp
    · exact (Below.heap_alloc w o p.1 (h.lt hp)).trans (h.own_at p hp)
  own_nd := by
    simp only [List.map_cons, List.nodup_cons]
    refine ⟨fun hm => ?_, h.own_nd⟩
    obtain ⟨p, hp, he⟩ := List.mem_map.1 hm
    have := h.lt hp
    omega
  ro_st := (h.later (Later.alloc w o)).ro_st
  ro_at := (h.later (Later.alloc w o)).ro_at
  apart := fun p hp s hs hd => by
    rcases List.mem_cons.1 hp with rfl | hp
    · exact (h.ro_st s hs).2.2.2
    · exact h.apart p hp s hs hd
/-- A world in which one block of the call's own has turned. -/
structure Turned (w w' : World) (b : Nat) (o : Obj) : Prop where
  os : w'.os = w.os
  tape : w'.tape = w.tape
  output : w'.output = w.output
  size : w'.heap.size = w.heap.size
  at_ : w'.heap[b]? = some o
  other : ∀ k, k ≠ b → w'.heap[k]? = w.heap[k]?
theorem Mem.turn {l1 l2 : List (Nat × Obj)} {b : Nat} {o o' : Obj} (h : Mem w (l1 ++ (b, o) :: l2) ro) (ht : Turned w w' b o') : Mem w' (l1 ++ (b, o') :: l2) ro := by
  have hb : (b, o) ∈ l1 ++ (b, o) :: l2 := by simp
  have hnd := h.own_nd
  simp only [List.map_append, List.map_cons] at hnd
  have hne : ∀ p, p ∈ l1 ∨ p ∈ l2 → p.1 ≠ b := by
    intro p hp e
    rw [List.nodup_append] at hnd
    obtain ⟨_, h2, h3⟩ := hnd
    rcases hp with hp | hp
    · exact h3 p.1 (List.mem_map_of_mem hp) b (by simp) e
    · exact (List.nodup_cons.1 h2).1 (e ▸ List.mem_map_of_mem hp)
  refine ⟨fun p hp => ?_, by simpa using h.own_nd, fun s hs => ?_, fun s hs k hk hlt => ?_, fun p hp s hs hd => ?_⟩
  · simp only [List.mem_append, List.mem_cons] at hp
    rcases hp with hp | rfl | hp
    · exact (ht.other _ (hne p (.inl hp))).trans (h.own_at p (by simp [hp]))
    · exact ht.at_
    · exact (ht.other _ (hne p (.inr hp))).trans (h.own_at p (by simp [hp]))
  · obtain ⟨h1, h2, h3, h4⟩ := h.ro_st s hs
    exact ⟨ht.os.trans h1, ht.tape.trans h2, ht.output.trans h3, by rw [ht.size]; exact h4⟩
  · have : k ≠ b := fun e => by
      subst e
      have := h.apart _ hb s hs hk
      simp only at this
      omega
    exact (ht.other k this).trans (h.ro_at s hs k hk hlt)
  · simp only [List.mem_append, List.mem_cons] at hp
    rcases hp with hp | rfl | hp
    · exact h.apart p (by simp [hp]) s hs hd
    · exact h.apart (b, o) hb s hs hd
    · exact h.apart p (by simp [hp]) s hs hd
def notOwn (own : List (Nat × Obj)) : Nat → Prop := fun k => ∀ p ∈ own, p.1 ≠ k
theorem Mem.snap (h : Mem w own ro) : Mem w own ((w, notOwn own) :: ro) where
  own_at := h.own_at
  own_nd := h.own_nd
  ro_st := fun s hs => by
    rcases List.mem_cons.1 hs with rfl | hs
    · exact ⟨rfl, rfl, rfl, Nat.le_refl _⟩
    · exact h.ro_st s hs
  ro_at := fun s hs k hk hlt => by
    rcases List.mem_cons.1 hs with rfl | hs
    · rfl
    · exact h.ro_at s hs k hk hlt
  apart := fun p hp s hs hd => by
    rcases List.mem_cons.1 hs with rfl | hs
    · exact absurd rfl (hd p hp)
    · exact h.apart p hp s hs hd
/-- Fewer blocks, fewer worlds. -/
theorem Mem.less (h : Mem w own ro) {own' : List (Nat × Obj)} {ro' : List Snap} (ho : own'.Sublist own) (hr : ∀ s ∈ ro', s ∈ ro) : Mem w own' ro' :=
  ⟨fun p hp => h.own_at p (ho.subset hp), (ho.map _).nodup h.own_nd, fun s hs => h.ro_st s (hr s hs), fun s hs => h.ro_at s (hr s hs), fun p hp s hs => h.apart p (ho.subset hp) s (hr s hs)⟩
theorem Mem.init (w : World) : Mem w [] [(w, fun _ => True)] :=
  ⟨fun p hp => by simp at hp, by simp, fun s hs => by simp at hs; subst hs; exact ⟨rfl, rfl, rfl, Nat.le_refl _⟩, fun s hs k _ _ => by simp at hs; subst hs; rfl, fun p hp => by simp at hp⟩
theorem Mem.base (h : Mem w own ro) {w0 : World} (hs : (w0, fun _ => True) ∈ ro) : Later w0 w := by
  obtain ⟨h1, h2, h3, h4⟩ := h.ro_st _ hs
  exact ⟨h1, h2, h3, h4, fun k hk => h.ro_at _ hs k trivial hk⟩
theorem Mem.cell_ro (h : Mem w own ro) {s : Snap} (hs : s ∈ ro) {p : Addr} (hd : s.2 p.block) (hlt : p.block < s.1.heap.size) : w.cell? p = s.1.cell? p :=
  World.cell?_of_block (w := s.1) (h.ro_at s hs p.block hd hlt)
theorem cell_lt {w : World} {p : Addr} {v : Value} (h : w.cell? p = some v) : p.block < w.heap.size := by
  unfold World.cell? at h
  split at h
  · exact heap_lt ‹_›
  · cases h
theorem Mem.cell_own (h : Mem w own ro) {b : Nat} {cs : Array Value} {t : TypeId} {fz : Nat × Nat} (hb : (b, Obj.cells cs t fz) ∈ own) (i : Nat) : w.cell? ⟨b, i, none⟩ = cs[i]? :=
  cell_of_row w b i cs t fz (h.own_at _ hb)
end

/-! ## States -/
section
variable {P : Program} {n : Nat} {l : List (Nat × Value)} {own : List (Nat × Obj)} {ro : List Snap}

def W (P : Program) (c : Code) (Q : Exit → Act → World → Prop) (n : Nat) (l : List (Nat × Value)) (own : List (Nat × Obj)) (ro : List Snap) : Prop :=
  ∀ a w, FH n l a → Mem w own ro → c.wp P Q a w
/-- What holds of every state. -/
def S (K : Act → World → Prop) (n : Nat) (l : List (Nat × Value)) (own : List (Nat × Obj)) (ro : List Snap) : Prop := ∀ a w, FH n l a → Mem w own ro → K a w

def wpX (P : Program) (ops : Array Oper) (Q : Exit → Act → World → Prop) (K : Act → World → Prop) : List (Option Bool × Nat) → Act → World → Prop
  | [], a, w => ∀ w', Later w w' → K a w'
  | (k, i) :: rest, a, w => match ops[i]? with
    | none => False
    | some o => match k with
      | some b => if Region.wanted o (yielded ops a.tmps) then
          (match b with
           | true => flt P o a w (fun a' => wpX P ops Q K rest a' w)
           | false => grw P o a w (wpX P ops Q K rest))
          else wpX P ops Q K rest (a.put o.dst undef) w
      | none => ∀ w', Later w w' → if Region.wanted o (yielded ops a.tmps) then o.wp P a w' (wpX P ops Q K rest) Q else wpX P ops Q K rest (a.put o.dst undef) w'

def WX (P : Program) (ops : Array Oper) (Q : Exit → Act → World → Prop) (K : Act → World → Prop) (plan : List (Option Bool × Nat)) (n : Nat) (l : List (Nat × Value)) (own : List (Nat × Obj)) (ro : List Snap) : Prop :=
  ∀ a w, FH n l a → Mem w own ro → wpX P ops Q K plan a w

theorem wpX_later {ops : Array Oper} {Q : Exit → Act → World → Prop} {K : Act → World → Prop} {rest : List Nat} {a : Act} {w w' : World} (hl : Later w w') (h : wpX P ops Q K (rest.map fun i => (none, i)) a w) :
    wpX P ops Q K (rest.map fun i => (none, i)) a w' := by
  cases rest with
  | nil => exact fun w2 h2 => h w2 (hl.trans h2)
  | cons i rest =>
    simp only [List.map_cons, wpX] at h ⊢
    split <;> rename_i ho <;> simp only [ho] at h
    exact fun w2 h2 => h w2 (hl.trans h2)

theorem wpList_of_X {Q : Exit → Act → World → Prop} {lops : List Oper} : ∀ (r : List Oper) (k : Nat) (a : Act) (w : World), lops.drop k = r →
    wpX P lops.toArray Q (fun a w => Q .normal a w) ((List.range' k (lops.length - k)).map fun i => (none, i)) a w → wpList P lops.toArray Q r a w
  | [], k, a, w, hr, h => by
    have hk : lops.length ≤ k := by simpa using hr
    rw [show lops.length - k = 0 by omega] at h
    exact h w (Later.refl _)
  | o :: r, k, a, w, hr, h => by
    have hk : k < lops.length := by
      rcases Nat.lt_or_ge k lops.length with h' | h'
      · exact h'
      · rw [List.drop_eq_nil_of_le h'] at hr; cases hr
    have hd := List.drop_eq_getElem_cons hk
    rw [hr] at hd
    injection hd with h1 h2
    rw [show lops.length - k = (lops.length - (k + 1)) + 1 by omega, List.range'_succ, List.map_cons] at h
    simp only [wpX, List.getElem?_toArray, List.getElem?_eq_getElem hk, ← h1] at h
    have h3 := h w (Later.refl _)
    refine wpList_step fun K hK => ?_
    split <;> rename_i hw
    · rw [if_pos hw] at h3
      exact Oper.wp_mono (fun a' w' hk' => hK _ _ (wpList_of_X r (k + 1) a' w' h2.symm hk')) h3
    · rw [if_neg hw] at h3
      exact hK _ _ (wpList_of_X r (k + 1) _ w h2.symm h3)

def tailFrom (m s : Nat) : List (Option Bool × Nat) := (List.range' m (s - m)).map fun i => (none, i)

theorem wpCan_of_X {lops : List Oper} {Q : Exit → Act → World → Prop} (m : Nat) : ∀ (plan : List (Bool × Nat)) (a : Act) (w : World),
    wpX P lops.toArray Q (fun a w => Q .normal a w) ((plan.map fun p => (some p.1, p.2)) ++ tailFrom m lops.length) a w →
    wpCan P lops.toArray (fun a' w' => ∀ w'', Later w' w'' → wpList P lops.toArray Q (lops.drop m) a' w'') plan a w
  | [], a, w, h => fun w2 h2 => wpList_of_X _ m a w2 rfl (wpX_later h2 h)
  | (b, i) :: plan, a, w, h => by
    simp only [List.map_cons, List.cons_append, wpX] at h
    simp only [wpCan]
    split <;> rename_i ho <;> simp only [ho] at h
    split <;> rename_i hw
    · rw [if_pos hw] at h
      cases b with
      | true => obtain ⟨v, h1, h2⟩ := h; exact ⟨v, h1, wpCan_of_X m plan _ w h2⟩
      | false => exact fun w2 h2 => Oper.wp_mono (fun a' w' hk => ⟨hk.1, wpCan_of_X m plan a' w' hk.2⟩) (h w2 h2)
    · rw [if_neg hw] at h
      exact wpCan_of_X m plan _ w h

/-- A region that draws its order. -/
theorem rg_draw {id : Nat} {Q : Exit → Act → World → Prop} {lops : List Oper} (m : Nat) (plan : List (Bool × Nat)) (hm : P.follows .mixedOrders = true) (hB : canB .any lops.toArray m plan = true)
    (h : WX P lops.toArray Q (fun a w => Q .normal a w) ((plan.map fun p => (some p.1, p.2)) ++ tailFrom m lops.length) n l own ro) : W P (.region id lops.toArray true) Q n l own ro :=
  fun a w ha hw => wp_region_can m plan hm hB (wpCan_of_X m plan a w (h a w ha hw))
/-- A region in the text's order. -/
theorem rg_text {id : Nat} {Q : Exit → Act → World → Prop} {lops : List Oper}
    (h : WX P lops.toArray Q (fun a w => Q .normal a w) (tailFrom 0 lops.length) n l own ro) : W P (.region id lops.toArray false) Q n l own ro :=
  fun a w ha hw => wp_region_lit (wpList_of_X lops 0 a w (by simp) (h a w ha hw))

/-! ## Code -/
section
variable {Q : Exit → Act → World → Prop}
theorem w_seq {x y : Code} (h : W P x (Exit.then (y.wp P Q) Q) n l own ro) : W P (.seq x y) Q n l own ro := fun a w ha hw => wp_seq (h a w ha hw)
theorem w_block {id : Nat} {c : Code} (h : W P c (Exit.inBlock id Q) n l own ro) : W P (.block id c) Q n l own ro := fun a w ha hw => wp_block (h a w ha hw)
theorem w_skip (h : S (Q .normal) n l own ro) : W P .skip Q n l own ro := fun a w ha hw => wp_skip (h a w ha hw)
theorem w_exit {id : Nat} (h : S (Q (.exit id)) n l own ro) : W P (.exit id) Q n l own ro := fun a w ha hw => wp_exit (h a w ha hw)
theorem w_ret (h : S (Q .ret) n l own ro) : W P .ret Q n l own ro := fun a w ha hw => wp_ret (h a w ha hw)
theorem w_cond {c : Operand} {x y : Code} {t : Bool} (hc : ev l c = some (.bool t)) (ht : t = true → W P x Q n l own ro) (hf : t = false → W P y Q n l own ro) : W P (.cond c x y) Q n l own ro :=
  fun a w ha hw => wp_cond_split (ha.eval hc) (fun h => ht h a w ha hw) (fun h => hf h a w ha hw)
/-- A loop: 'σ' is what changes from round to round. -/
theorem w_loop {c : Code} {σ : Type} (I : σ → Prop) (L : σ → List (Nat × Value)) (O : σ → List (Nat × Obj)) (R : σ → List Snap) (μ : σ → Nat) (x0 : σ) (hI : I x0)
    (h0 : ∀ a w, FH n l a → Mem w own ro → FH n (L x0) a ∧ Mem w (O x0) (R x0))
    (round : ∀ x, I x → W P c (Exit.then (fun a w => ∃ x', I x' ∧ μ x' < μ x ∧ FH n (L x') a ∧ Mem w (O x') (R x')) Q) n (L x) (O x) (R x)) : W P (.loop c) Q n l own ro := by
  intro a w ha hw b k cs
  have key : ∀ m x, I x → μ x = m → ∀ a w, FH n (L x) a → Mem w (O x) (R x) →
      ∃ e a' w', Q e a' w' ∧ Arrives P (lone (b.at a (.code c :: .inLoop c :: k)) cs w) b k cs e a' w' := by
    intro m
    induction m using Nat.strongRecOn with
    | _ m ih =>
      intro x hIx hx a w ha hw
      obtain ⟨e, a₁, w₁, hq, harr⟩ := round x hIx a w ha hw b (.inLoop c :: k) cs
      cases e with
      | normal =>
        obtain ⟨x', hI', hlt, ha', hw'⟩ := hq
        obtain ⟨e₂, a₂, w₂, hq₂, harr₂⟩ := ih (μ x') (hx ▸ hlt) x' hI' rfl a₁ w₁ ha' hw'
        exact ⟨e₂, a₂, w₂, hq₂, .of_steps (Steps.trans harr (.one step_inLoop)) harr₂⟩
      | exit id => exact ⟨_, a₁, w₁, hq, .pass (x := .inLoop c) rfl (fun _ _ => .inl (by simp)) harr⟩
      | goto l => exact ⟨_, a₁, w₁, hq, .pass (x := .inLoop c) rfl (fun _ _ => .inl (by simp)) harr⟩
      | ret => exact ⟨_, a₁, w₁, hq, .pass (x := .inLoop c) rfl (fun _ _ => .inl (by simp)) harr⟩
      | panic ch => exact ⟨_, a₁, w₁, hq, .pass (x := .inLoop c) rfl (fun _ _ => .inl (by simp)) harr⟩
      | outgrown => exact ⟨_, a₁, w₁, hq, .pass (x := .inLoop c) rfl (fun _ _ => .inl (by simp)) harr⟩
  obtain ⟨h1, h2⟩ := h0 a w ha hw
  obtain ⟨e, a', w', hq, harr⟩ := key _ x0 hI rfl a w h1 h2
  exact ⟨e, a', w', hq, .of_steps (.one step_loop) harr⟩
end
end
end Go.PK
