/- Of the proofs of Ytmihkbciilloaaa; see NOTES.md. -/
import Derived.Test.YtmihkbciilloaaaPkRef4
/-! A field alone. -/
namespace Go.PK
open Go Go.RowKit
set_option linter.unusedVariables false
def lastK (ps : List Pb) (n : Int) : Int := ps.foldl (fun acc p => if p.field = n then p.kind else acc) 0
theorem lastK_snoc (ps : List Pb) (p : Pb) (n : Int) : lastK (ps ++ [p]) n = if p.field = n then p.kind else lastK ps n := by simp [lastK]
theorem fpb_cases (rs : List Rl) (fs : List Fl) (f : Fl) (n : Nat) : fpb rs fs f n = [] ∧ kindOf (fpb rs fs f n) = 0 ∨ fpb rs fs f n = [⟨n, kindOf (fpb rs fs f n)⟩] := by
  unfold fpb tpb
  split
  · split
    · exact .inr rfl
    · split
      · exact .inl ⟨rfl, rfl⟩
      · split
        · exact .inl ⟨rfl, rfl⟩
        · exact .inr rfl
  · exact .inr rfl
theorem lastK_chkF (rs : List Rl) (fs : List Fl) (n : Nat) (hn : n < fs.length) : ∀ k, k ≤ fs.length → lastK (chkF rs fs k) n = if n < k then kindOf (fpb rs fs fs[n] n) else 0
  | 0, _ => rfl
  | k + 1, hk => by
    have ih := lastK_chkF rs fs n hn k (by omega)
    rw [chkF_succ (by omega)]
    rcases fpb_cases rs fs fs[k] k with ⟨h1, h2⟩ | h1
    · rw [h1, List.append_nil, ih]
      by_cases hnk : n < k
      · rw [if_pos hnk, if_pos (by omega)]
      · rw [if_neg hnk]
        by_cases hnk2 : n < k + 1
        · obtain rfl : n = k := by omega
          rw [if_pos hnk2, h2]
        · rw [if_neg hnk2]
    · rw [h1, lastK_snoc, ih]
      simp only
      by_cases hnk : n = k
      · subst hnk
        rw [if_pos rfl, if_pos (by omega)]
      · rw [if_neg (by omega)]
        by_cases h3 : n < k
        · rw [if_pos h3, if_pos (by omega)]
        · rw [if_neg h3, if_neg (by omega)]
theorem lastK_chkM (rs : List Rl) (fs : List Fl) (n : Nat) (hn : n < fs.length) : ∀ k, k ≤ rs.length → lastK (chkM rs fs k) n = kindOf (fpb rs fs fs[n] n)
  | 0, _ => by rw [chkM, lastK_chkF rs fs n hn _ (Nat.le_refl _), if_pos hn]
  | k + 1, hk => by
    rw [chkM_succ (by omega)]
    unfold mpb
    split
    · rw [lastK_snoc, if_neg (by simp only; omega), lastK_chkM rs fs n hn k (by omega)]
    · rw [List.append_nil, lastK_chkM rs fs n hn k (by omega)]
theorem lastK_chk (rs : List Rl) (fs : List Fl) (n : Nat) (hn : n < fs.length) : lastK (chk rs fs) n = kindOf (fpb rs fs fs[n] n) := lastK_chkM rs fs n hn _ (Nat.le_refl _)
theorem find4 (p : Nat → Bool) : (List.range 4).find? p = if p 0 then some 0 else if p 1 then some 1 else if p 2 then some 2 else if p 3 then some 3 else none := by
  rw [show List.range 4 = [0, 1, 2, 3] from rfl]
  simp only [List.find?_cons, List.find?_nil]
  cases p 0 <;> cases p 1 <;> cases p 2 <;> cases p 3 <;> rfl
theorem alone_fpb {rs : List Rl} {fs : List Fl} {f : Fl} {n : Nat} (h : kindOf (fpb rs fs f n) ≠ 22) : kindOf (fpb rs [f] f 0) = kindOf (fpb rs fs f n) := by
  revert h
  unfold fpb
  split
  · split
    · intro _; rfl
    · split
      · intro _; rfl
      · rename_i r _
        unfold tpb
        rw [find4, find4]
        have e0 : tst r [f] f 0 0 = false := by simp [tst, tfail]
        have e1 : tst r [f] f 0 1 = tst r fs f n 1 := rfl
        have e2 : tst r [f] f 0 2 = tst r fs f n 2 := rfl
        have e3 : tst r [f] f 0 3 = tst r fs f n 3 := rfl
        rw [e0, e1, e2, e3]
        cases tst r fs f n 0
        · cases tst r fs f n 1 <;> cases tst r fs f n 2 <;> cases tst r fs f n 3 <;> intro h <;> first | rfl | exact absurd rfl h
        · intro h; exact absurd rfl h
  · intro _; rfl
theorem alone_law (rs : List Rl) (fs : List Fl) (n : Nat) (hn : n < fs.length) (h : lastK (chk rs fs) n ≠ 22) : lastK (chk rs [fs[n]]) 0 = lastK (chk rs fs) n := by
  have h1 := lastK_chk rs [fs[n]] 0 (by simp)
  simp only [List.getElem_cons_zero] at h1
  rw [show ((0 : Nat) : Int) = 0 from rfl] at h1
  rw [lastK_chk rs fs n hn] at h ⊢
  rw [h1]
  exact alone_fpb h
theorem field_in (rs : List Rl) (fs : List Fl) : ∀ p ∈ chk rs fs, -1 ≤ p.field ∧ p.field < (fs.length : Int) := by
  have hF : ∀ k, k ≤ fs.length → ∀ p ∈ chkF rs fs k, -1 ≤ p.field ∧ p.field < (k : Int) := by
    intro k
    induction k with
    | zero => intro _ p hp; simp [chkF] at hp
    | succ k ih =>
      intro hk p hp
      rw [chkF_succ (by omega)] at hp
      rcases List.mem_append.1 hp with hp | hp
      · have := ih (by omega) p hp; omega
      · rcases fpb_cases rs fs fs[k] k with ⟨h1, _⟩ | h1
        · rw [h1] at hp; simp at hp
        · rw [h1] at hp; rw [List.mem_singleton.1 hp]; simp only; omega
  have hM : ∀ k, k ≤ rs.length → ∀ p ∈ chkM rs fs k, -1 ≤ p.field ∧ p.field < (fs.length : Int) := by
    intro k
    induction k with
    | zero => intro _ p hp; exact hF _ (Nat.le_refl _) p hp
    | succ k ih =>
      intro hk p hp
      rw [chkM_succ (by omega)] at hp
      rcases List.mem_append.1 hp with hp | hp
      · exact ih (by omega) p hp
      · unfold mpb at hp
        split at hp
        · rw [List.mem_singleton.1 hp]; simp only; omega
        · simp at hp
  exact hM _ (Nat.le_refl _)
/-- What the map says. -/
def MapOf (mf : Value → Option Value) (ps : List Pb) : Prop := ∀ n : Nat, (mf (.int .i64 (n : Nat))).getD (.int .i64 0) = .int .i64 (lastK ps n)
theorem MapOf.nil : MapOf (fun _ => none) [] := fun n => rfl
theorem MapOf.yes {mf : Value → Option Value} {ps : List Pb} {p : Pb} (h : MapOf mf ps) : MapOf (fupd mf (.int .i64 p.field) (.int .i64 p.kind)) (ps ++ [p]) := fun n => by
  rw [lastK_snoc]
  by_cases he : p.field = n
  · rw [if_pos he, he, fupd_self]; rfl
  · rw [if_neg he, fupd_ne (fun e => he (by injection e with _ e; exact e.symm)), h n]
theorem MapOf.no {mf : Value → Option Value} {ps : List Pb} {p : Pb} (h : MapOf mf ps) (hp : p.field < 0) : MapOf mf (ps ++ [p]) := fun n => by
  rw [lastK_snoc, if_neg (by omega), h n]
theorem wf_i64' {n : Int} (h : -9223372036854775808 ≤ n ∧ n ≤ 9223372036854775807) : (Lit.int .i64 n).wf = true := by
  simp only [Lit.wf, Bool.and_eq_true, decide_eq_true_eq]
  have h1 : IntKind.i64.min = -9223372036854775808 := by decide
  have h2 : IntKind.i64.max = 9223372036854775807 := by decide
  omega
end Go.PK
