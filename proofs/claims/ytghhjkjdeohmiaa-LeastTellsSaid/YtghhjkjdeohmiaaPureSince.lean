/- The marks of some time: the first that lies in it, and the least one. Plain Lean. -/
import Derived.Test.YtghhjkjdeohmiaaPureTells
import Derived.Test.YtghhjkjdeohmiaaHpx18
import Derived.Test.YtghhjkjdeohmiaaHpx7
namespace Go.Proofs.Ytghhjkjdeohmiaa.Pure
open Go.RowKit Go.Proofs.YtghhjkjdeohmiaaW.PrintWords Go.Proofs.Ytghhjkjdeohmiaa.Hp
set_option linter.unusedVariables false
set_option linter.unusedSimpArgs false
def sinceR (w at_ : Int) : List S28 → Int × Bool
  | [] => (0, false)
  | m :: l => if m.f0 ≤ at_ then (if at_ - m.f0 ≤ w then (m.f1, true) else sinceR w at_ l) else sinceR w at_ l
def leastR (f t : Int) : Int → Bool → List S28 → Int × Bool
  | n, b, [] => (n, b)
  | n, b, m :: l => if f ≤ m.f0 ∧ m.f0 ≤ t ∧ (b = false ∨ m.f1 < n) then leastR f t m.f1 true l else leastR f t n b l
theorem since_loop (w at_ : Int) (ha : at_ ≤ 9223372036854775807) (l : List S28) (hT : ∀ m ∈ l, T m.f0) (hl : l.length ≤ 1000000) (d : Nat) : ∀ (k i : Nat), i ≤ l.length → l.length - i = d → d < k → least_Since.l0 k w at_ l (l.length : Int) (i : Int) = some (sinceR w at_ (l.drop i)) := by
  induction d with
  | zero =>
    intro k i h1 hd hk
    obtain ⟨k, rfl⟩ : ∃ m, k = m + 1 := ⟨k - 1, by omega⟩
    obtain rfl : i = l.length := by omega
    simp only [least_Since.l0]
    rw [if_neg (by omega), List.drop_length]
    rfl
  | succ d ih =>
    intro k i h1 hd hk
    obtain ⟨k, rfl⟩ : ∃ m, k = m + 1 := ⟨k - 1, by omega⟩
    have hlt : i < l.length := by omega
    have hn := ih k (i + 1) (by omega) (by omega) (by omega)
    have hw : wrap64 ((i : Int) + 1) = ((i + 1 : Nat) : Int) := by rw [wrap64_id (by omega)]; omega
    have hm : T (rd_T28 l i).f0 := hT _ (by
      have h := rd_drop l i hlt
      exact List.mem_of_mem_drop (i := i) (by rw [h]; exact List.mem_cons_self))
    unfold T at hm
    simp only [least_Since.l0]
    rw [if_pos (by omega), if_pos (by omega), if_pos (by omega), rd_drop l i hlt, hw, hn]
    simp only [sinceR]
    by_cases c : (rd_T28 l i).f0 ≤ at_
    · rw [if_pos c, if_pos c, wrap64_id (n := at_ - (rd_T28 l i).f0) (by omega)]
      split <;> rfl
    · rw [if_neg c, if_neg c]
theorem since_tells (w at_ : Int) (ha : at_ ≤ 9223372036854775807) (l : List S28) (hl : l.length ≤ 1000000) (k : Nat) (hk : l.length + 1 < k) : least_Since.f k l w at_ = some (if Good l ∧ 0 ≤ w then sinceR w at_ l else (0, false)) := by
  unfold least_Since.f
  rw [check_tells l hl k (by omega)]
  simp only [Option.bind_some]
  obtain ⟨k, rfl⟩ : ∃ m, k = m + 1 := ⟨k - 1, by omega⟩
  by_cases hG : Good l
  · rw [if_pos (decide_eq_true hG)]
    simp only [least_Since.j0]
    by_cases hw : w < 0
    · rw [if_pos (decide_eq_true hw), if_neg (by omega)]
    · rw [if_neg (by simpa using hw), if_pos ⟨hG, by omega⟩]
      have h := since_loop w at_ ha l hG.1 hl l.length k 0 (Nat.zero_le _) rfl (by omega)
      rw [List.drop_zero] at h
      exact h
  · rw [if_neg (by simpa using hG), if_neg (fun e => hG e.1)]
    simp only [least_Since.j0, if_true]
theorem least_loop (f t : Int) (l : List S28) (hl : l.length ≤ 1000000) (d : Nat) : ∀ (k i : Nat) (n : Int) (b : Bool), i ≤ l.length → l.length - i = d → d < k → sawtoothref08_Least.l0 k l f t n b (i : Int) = some (leastR f t n b (l.drop i)) := by
  induction d with
  | zero =>
    intro k i n b h1 hd hk
    obtain ⟨k, rfl⟩ : ∃ m, k = m + 1 := ⟨k - 1, by omega⟩
    obtain rfl : i = l.length := by omega
    simp only [sawtoothref08_Least.l0]
    rw [if_neg (by omega), List.drop_length]
    rfl
  | succ d ih =>
    intro k i n b h1 hd hk
    obtain ⟨k, rfl⟩ : ∃ m, k = m + 1 := ⟨k - 1, by omega⟩
    have hlt : i < l.length := by omega
    have hn := fun n b => ih k (i + 1) n b (by omega) (by omega) (by omega)
    have hw : wrap64 ((i : Int) + 1) = ((i + 1 : Nat) : Int) := by rw [wrap64_id (by omega)]; omega
    simp only [sawtoothref08_Least.l0]
    rw [if_pos (by omega), if_pos (by omega), rd_drop l i hlt, hw, hn, hn]
    simp only [leastR]
    by_cases c1 : (rd_T28 l i).f0 ≥ f
    · rw [if_pos c1]
      by_cases c2 : (rd_T28 l i).f0 ≤ t
      · rw [if_pos c2]
        cases b with
        | false => rw [if_neg (by simp), if_pos ⟨by omega, c2, .inl rfl⟩]
        | true =>
          rw [if_pos rfl]
          by_cases c3 : (rd_T28 l i).f1 < n
          · rw [if_pos c3, if_pos ⟨by omega, c2, .inr c3⟩]
          · rw [if_neg c3, if_neg (fun e => by
              rcases e.2.2 with h | h
              · cases h
              · exact c3 h)]
      · rw [if_neg c2, if_neg (fun e => c2 e.2.1)]
    · rw [if_neg c1, if_neg (fun e => c1 (by omega))]
theorem least_tells (f t : Int) (l : List S28) (hl : l.length ≤ 1000000) (k : Nat) (hk : l.length < k) : sawtoothref08_Least.f k l f t = some (leastR f t 0 false l) := by
  unfold sawtoothref08_Least.f
  have h := least_loop f t l hl l.length k 0 0 false (Nat.zero_le _) rfl hk
  rw [List.drop_zero] at h
  exact h
theorem least_stay (f t n : Int) : ∀ (l : List S28), (∀ x ∈ l, n ≤ x.f1) → leastR f t n true l = (n, true)
  | [], _ => rfl
  | m :: l, h => by
    simp only [leastR]
    rw [if_neg (fun e => by
      have := h m List.mem_cons_self
      rcases e.2.2 with h | h
      · cases h
      · omega)]
    exact least_stay f t n l (fun x hx => h x (List.mem_cons_of_mem _ hx))
theorem since_least (w at_ : Int) : ∀ (l : List S28), Good l → sinceR w at_ l = leastR (at_ - w) at_ 0 false l
  | [], _ => rfl
  | m :: l, h => by
    have hp := List.pairwise_cons.1 h.2
    have hl : Good l := ⟨fun x hx => h.1 x (List.mem_cons_of_mem _ hx), hp.2⟩
    simp only [sinceR, leastR]
    by_cases c1 : m.f0 ≤ at_
    · rw [if_pos c1]
      by_cases c2 : at_ - m.f0 ≤ w
      · rw [if_pos c2, if_pos (by simp; omega), least_stay]
        intro x hx
        have := (hp.1 x hx).2
        omega
      · rw [if_neg c2, if_neg (by omega)]
        exact since_least w at_ l hl
    · rw [if_neg c1, if_neg (by omega)]
      exact since_least w at_ l hl
theorem since_mem (w at_ n : Int) : ∀ (l : List S28), sinceR w at_ l = (n, true) → ∃ m ∈ l, m.f1 = n
  | [], h => by simp [sinceR] at h
  | m :: l, h => by
    simp only [sinceR] at h
    split at h
    · split at h
      · exact ⟨m, List.mem_cons_self, by simpa using h⟩
      · obtain ⟨x, hx, e⟩ := since_mem w at_ n l h
        exact ⟨x, List.mem_cons_of_mem _ hx, e⟩
    · obtain ⟨x, hx, e⟩ := since_mem w at_ n l h
      exact ⟨x, List.mem_cons_of_mem _ hx, e⟩
theorem since_wide (w W at_ : Int) (hw : w ≤ W) : ∀ (l : List S28), Good l → (sinceR w at_ l).2 = true → (sinceR W at_ l).2 = true ∧ (sinceR W at_ l).1 ≤ (sinceR w at_ l).1
  | [], _, h => by simp [sinceR] at h
  | m :: l, hG, h => by
    have hp := List.pairwise_cons.1 hG.2
    have hl : Good l := ⟨fun x hx => hG.1 x (List.mem_cons_of_mem _ hx), hp.2⟩
    simp only [sinceR] at h ⊢
    by_cases c1 : m.f0 ≤ at_
    · rw [if_pos c1] at h ⊢
      by_cases c2 : at_ - m.f0 ≤ w
      · rw [if_pos c2] at h ⊢
        rw [if_pos c1, if_pos (by omega)]
        exact ⟨rfl, Int.le_refl _⟩
      · rw [if_neg c2] at h ⊢
        rw [if_pos c1]
        by_cases c3 : at_ - m.f0 ≤ W
        · rw [if_pos c3]
          obtain ⟨x, hx, e⟩ := since_mem w at_ (sinceR w at_ l).1 l (by rw [← h])
          have := (hp.1 x hx).2
          exact ⟨rfl, by simp only; omega⟩
        · rw [if_neg c3]
          exact since_wide w W at_ hw l hl h
    · rw [if_neg c1] at h ⊢
      rw [if_neg c1]
      exact since_wide w W at_ hw l hl h

end Go.Proofs.Ytghhjkjdeohmiaa.Pure
