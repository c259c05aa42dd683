/- SafeSigns over numbers alone: a product's sign is told by both. -/
import Derived.Test.YtdgnhmghniloiaaPureTells
import Derived.Test.YtdgnhmghniloiaaHpx15
import Derived.OpenShut
namespace Go.Proofs.Ytdgnhmghniloiaa.Pure
open Go.RowKit Go.Proofs.Ytdgnhmghniloiaa.Hp Go.Proofs.YtdgnhmghniloiaaW.PrintWords Go.Proofs.YtdgnhmghniloiaaW.PrintLast Go.Proofs.YtdgnhmghniloiaaW.PrintMore

theorem SafeSigns : sawtoothlaw01_SafeSigns.Pure := by
  intro a b ha hb
  have ha : R a := bounds_i64 ha
  have hb : R b := bounds_i64 hb
  have z : R 0 := by unfold R; omega
  refine ⟨2, ?_⟩
  have end_ : sawtoothlaw01_SafeSigns.j1 1 a true true = some true := by
    simp only [sawtoothlaw01_SafeSigns.j1]
    rw [sub_tells 0 a z ha, abs_tells a ha, mul_tells a 1 ha (by unfold R; omega), mul_tells a (-1) ha (by unfold R; omega)]
    have hn : 0 - a = -a := by omega
    rw [hn, Int.mul_one, show a * -1 = -a from by omega, sat_id ha]
    simp only [Option.bind_some, if_true]
    have ha' := ha
    unfold R at ha'
    rw [if_pos (by unfold sat; (repeat' split) <;> omega)]
    by_cases h : a = -9223372036854775808
    · rw [if_pos h]; simp
    · rw [if_neg h]
      have hr : R (-a) := by unfold R; omega
      rw [sat_id hr, abs_tells (-a) hr, sub_tells 0 (-a) z hr, show 0 - -a = a from by omega, sat_id ha]
      simp only [Option.bind_some, if_true]
      rw [if_pos (by unfold sat; (repeat' split) <;> omega)]
      simp
  have one : sawtoothlaw01_SafeSigns.j0 2 a b true (sat (a * b)) (decide (a = 0 ∨ b = 0)) = some true := by
    simp only [sawtoothlaw01_SafeSigns.j0]
    by_cases h0 : a = 0 ∨ b = 0
    · have hm : a * b = 0 := by rcases h0 with h | h <;> rw [h] <;> simp
      rw [if_pos (decide_eq_true h0), hm, sat_id z, if_pos rfl]
      exact end_
    · rw [if_neg (by simpa using h0)]
      have h0a : a ≠ 0 := fun h => h0 (.inl h)
      have h0b : b ≠ 0 := fun h => h0 (.inr h)
      by_cases h1 : a > 0 <;> by_cases h2 : b > 0
      · have p : 0 < a * b := Int.mul_pos h1 h2
        rw [decide_eq_true h1, decide_eq_true h2, if_pos (show (true == true) = true from rfl), if_pos (by unfold sat; (repeat' split) <;> omega)]
        exact end_
      · have p : a * b < 0 := Int.mul_neg_of_pos_of_neg h1 (by omega)
        rw [decide_eq_true h1, decide_eq_false h2, if_neg (by simp), decide_eq_true (by unfold sat; (repeat' split) <;> omega : sat (a * b) < 0)]
        exact end_
      · have p : a * b < 0 := Int.mul_neg_of_neg_of_pos (by omega) h2
        rw [decide_eq_false h1, decide_eq_true h2, if_neg (by simp), decide_eq_true (by unfold sat; (repeat' split) <;> omega : sat (a * b) < 0)]
        exact end_
      · have p : 0 < a * b := Int.mul_pos_of_neg_of_neg (by omega) (by omega)
        rw [decide_eq_false h1, decide_eq_false h2, if_pos (show (false == false) = true from rfl), if_pos (by unfold sat; (repeat' split) <;> omega)]
        exact end_
  unfold sawtoothlaw01_SafeSigns.f
  rw [awake_tells, mul_tells a b ha hb]
  simp only [Option.bind_some]
  by_cases h : a = 0
  · rw [if_pos h]
    rw [decide_eq_true (.inl h)] at one
    exact one
  · rw [if_neg h]
    by_cases h2 : b = 0
    · rw [decide_eq_true (.inr h2)] at one
      rw [beq_iff_eq.2 h2]
      exact one
    · rw [decide_eq_false (by intro h3; rcases h3 with h3 | h3 <;> contradiction)] at one
      rw [beq_eq_false_iff_ne.2 h2]
      exact one

end Go.Proofs.Ytdgnhmghniloiaa.Pure
