/- The marks behind some numbers, as against all that were put. Plain Lean. -/
import Derived.Test.YtghhjkjdeohmiaaPureSince
namespace Go.Proofs.Ytghhjkjdeohmiaa.Pure
open Go.RowKit Go.Proofs.YtghhjkjdeohmiaaW.PrintWords Go.Proofs.Ytghhjkjdeohmiaa.Hp
set_option linter.unusedVariables false
set_option linter.unusedSimpArgs false
/-- Of marks that may be, the first that is not before some time: its number. -/
def fst (t : Int) : List S28 → Option Int
  | [] => none
  | m :: l => if t ≤ m.f0 then some m.f1 else fst t l
/-- The least number of those not before some time. -/
def mn2 : Option Int → Int → Option Int
  | none, n => some n
  | some m, n => some (if n < m then n else m)
def low (t : Int) : Option Int → List S28 → Option Int
  | a, [] => a
  | a, m :: l => low t (if t ≤ m.f0 then mn2 a m.f1 else a) l
theorem low_snoc (t : Int) (m : S28) : ∀ (l : List S28) (a : Option Int), low t a (l ++ [m]) = if t ≤ m.f0 then mn2 (low t a l) m.f1 else low t a l
  | [], a => rfl
  | x :: l, a => low_snoc t m l _
def optV : Option Int → Int × Bool
  | none => (0, false)
  | some n => (n, true)
theorem leastR_low (f t : Int) : ∀ (l : List S28) (n : Int) (b : Bool), (∀ x ∈ l, x.f0 ≤ t) → (b = false → n = 0) → leastR f t n b l = optV (low f (if b = true then some n else none) l)
  | [], n, b, _, h0 => by
    cases b with
    | false => rw [h0 rfl]; rfl
    | true => rfl
  | m :: l, n, b, h, h0 => by
    simp only [leastR, low]
    have hm := h m List.mem_cons_self
    have hl : ∀ x ∈ l, x.f0 ≤ t := fun x hx => h x (List.mem_cons_of_mem _ hx)
    by_cases c1 : f ≤ m.f0
    · rw [if_pos c1]
      cases b with
      | false =>
        rw [if_pos ⟨c1, hm, .inl rfl⟩, leastR_low f t l _ _ hl (fun e => by cases e)]
        rfl
      | true =>
        by_cases c2 : m.f1 < n
        · rw [if_pos ⟨c1, hm, .inr c2⟩, leastR_low f t l _ _ hl (fun e => by cases e)]
          simp [mn2, c2]
        · rw [if_neg (fun e => by
            rcases e.2.2 with h | h
            · cases h
            · exact c2 h), leastR_low f t l _ _ hl (fun e => by cases e)]
          simp [mn2, c2]
    · rw [if_neg c1, if_neg (fun e => c1 e.1)]
      exact leastR_low f t l n b hl h0
theorem fst_mem (t : Int) : ∀ (l : List S28) (n : Int), fst t l = some n → ∃ m ∈ l, m.f1 = n ∧ t ≤ m.f0
  | [], n, h => by cases h
  | m :: l, n, h => by
    simp only [fst] at h
    split at h
    · rename_i c; exact ⟨m, List.mem_cons_self, by simpa using h, c⟩
    · obtain ⟨x, hx, e⟩ := fst_mem t l n h
      exact ⟨x, List.mem_cons_of_mem _ hx, e⟩
/-- Behind one more mark, of those not before a time that the window holds. -/
theorem fst_put (t at_ n : Int) (ht : t ≤ at_) : ∀ (l : List S28), Good l → fst t (l.takeWhile (fun m : S28 => decide (m.f1 < n)) ++ [(⟨at_, n⟩ : S28)]) = mn2 (fst t l) n
  | [], _ => by simp [fst, mn2, ht]
  | m :: l, h => by
    have hp := List.pairwise_cons.1 h.2
    have hl : Good l := ⟨fun x hx => h.1 x (List.mem_cons_of_mem _ hx), hp.2⟩
    rw [List.takeWhile_cons]
    by_cases c : m.f1 < n
    · rw [if_pos (decide_eq_true c), List.cons_append]
      simp only [fst]
      by_cases c2 : t ≤ m.f0
      · rw [if_pos c2, if_pos c2]
        simp only [mn2]
        rw [if_neg (by omega)]
      · rw [if_neg c2, if_neg c2]
        exact fst_put t at_ n ht l hl
    · rw [if_neg (by simpa using c)]
      simp only [List.nil_append, fst]
      rw [if_pos ht]
      by_cases c2 : t ≤ m.f0
      · rw [if_pos c2]
        simp only [mn2]
        congr 1
        split <;> omega
      · rw [if_neg c2]
        cases e : fst t l with
        | none => rfl
        | some q =>
          obtain ⟨x, hx, h1, h2⟩ := fst_mem t l q e
          have := (hp.1 x hx).2
          simp only [mn2]
          rw [if_pos (by omega)]
theorem fst_dw (t c : Int) (hc : c ≤ t) : ∀ (l : List S28), fst t (l.dropWhile (fun m : S28 => decide (m.f0 < c))) = fst t l
  | [] => rfl
  | m :: l => by
    rw [List.dropWhile_cons]
    by_cases h : m.f0 < c
    · rw [if_pos (decide_eq_true h)]
      simp only [fst]
      rw [if_neg (by omega)]
      exact fst_dw t c hc l
    · rw [if_neg (by simpa using h)]
theorem dw_head (c : Int) : ∀ (l : List S28), ∀ m r, l.dropWhile (fun m : S28 => decide (m.f0 < c)) = m :: r → c ≤ m.f0
  | [], m, r, h => by cases h
  | x :: l, m, r, h => by
    rw [List.dropWhile_cons] at h
    split at h
    · exact dw_head c l m r h
    · rename_i hc
      simp at hc
      cases h
      exact hc
/-- All of them: what marks behind some numbers are, as against all that were put: 'c': from what time on the window reaches. -/
structure Inv (c : Int) (l all : List S28) : Prop where
  good : Good l
  same : ∀ t, c ≤ t → fst t l = low t none all
  at_ : ∀ x ∈ all, ∀ a, lastAt l = some a → x.f0 ≤ a
  last : lastAt l = lastAt all
  first : ∀ m r, l = m :: r → c ≤ m.f0
  empty : l = [] → all = []
theorem Inv.nil (c : Int) : Inv c [] [] := ⟨good_nil, fun _ _ => rfl, fun x hx => (by cases hx), rfl, fun m r h => (by cases h), fun _ => rfl⟩
theorem last_snoc (l : List S28) (m : S28) : lastAt (l ++ [m]) = some m.f0 := by simp [lastAt]
theorem Inv.put {c w at_ n : Int} {l all : List S28} (h : Inv c l all) (hT : T at_) (hw : 0 ≤ w) (hl : Late l at_) (hc : c ≤ at_ - w ∨ l = []) : Inv (at_ - w) (pl l w at_ n) (all ++ [⟨at_, n⟩]) := by
  have hall : ∀ x ∈ all, x.f0 ≤ at_ := by
    intro x hx
    rcases List.eq_nil_or_concat l with rfl | ⟨l', b, rfl⟩
    · rw [h.empty rfl] at hx; cases hx
    · rw [List.concat_eq_append] at *
      have h1 := h.at_ x hx b.f0 (last_snoc _ _)
      have h2 := hl b.f0 (last_snoc _ _)
      omega
  refine ⟨pl_good h.good hT hl hw, fun t ht => ?_, fun x hx a ha => ?_, ?_, fun m r e => ?_, fun e => ?_⟩
  · unfold pl
    rw [fst_dw t _ ht, low_snoc]
    have hs : fst t l = low t Option.none all := by
      rcases hc with hc | hc
      · exact h.same t (by omega)
      · rw [hc, h.empty hc]; rfl
    by_cases c2 : t ≤ at_
    · rw [if_pos c2, fst_put t at_ n c2 l h.good, hs]
    · rw [if_neg c2, ← hs]
      have z1 : ∀ (q : List S28), (∀ x ∈ q, x.f0 ≤ at_) → fst t q = Option.none := by
        intro q
        induction q with
        | nil => intro _; rfl
        | cons m q ih =>
          intro hq
          simp only [fst]
          have := hq m List.mem_cons_self
          rw [if_neg (by omega)]
          exact ih (fun x hx => hq x (List.mem_cons_of_mem _ hx))
      rw [z1, z1]
      · exact good_last h.good hl
      · intro x hx
        rcases List.mem_append.1 hx with hx | hx
        · exact good_last h.good hl x ((tw_sub _ _).subset hx)
        · rw [List.mem_singleton.1 hx]; exact Int.le_refl _
  · rw [pl_last hw] at ha
    cases ha
    rcases List.mem_append.1 hx with hx | hx
    · exact hall x hx
    · rw [List.mem_singleton.1 hx]; exact Int.le_refl _
  · rw [pl_last hw, last_snoc]
  · unfold pl at e
    exact dw_head _ _ m r e
  · rw [pl_form hw] at e
    exact absurd e (by simp)
/-- What is told of the marks is the least of all that count. -/
theorem Inv.tells {c : Int} {l all : List S28} (h : Inv c l all) : ofG l = optV (low c none all) := by
  unfold ofG
  rw [if_pos h.good, ← h.same c (Int.le_refl _)]
  cases l with
  | nil => rfl
  | cons m r =>
    simp only [fst, ofV]
    rw [if_pos (h.first m r rfl)]
    rfl

end Go.Proofs.Ytghhjkjdeohmiaa.Pure
