/- SafeClamps over numbers alone: a number that is clamped lies between both, and one that lies there stays. -/
import Derived.Test.YtdgnhmghniloiaaPureTells
import Derived.Test.YtdgnhmghniloiaaHpx16
import Derived.OpenShut
namespace Go.Proofs.Ytdgnhmghniloiaa.Pure
open Go.RowKit Go.Proofs.Ytdgnhmghniloiaa.Hp Go.Proofs.YtdgnhmghniloiaaW.PrintWords Go.Proofs.YtdgnhmghniloiaaW.PrintLast Go.Proofs.YtdgnhmghniloiaaW.PrintMore

theorem clamp_in (a l h : Int) (hl : l ≤ h) : ∃ n, safe_Clamp.f a l h = some n ∧ l ≤ n ∧ n ≤ h ∧ safe_Clamp.f n l h = some n ∧ (n = a ↔ l ≤ a ∧ a ≤ h) := by
  rw [clamp_tells]
  by_cases h1 : a < l
  · exact ⟨l, by rw [if_pos h1], by omega, hl, by rw [clamp_tells, if_neg (by omega), if_neg (by omega)], by omega⟩
  · rw [if_neg h1]
    by_cases h2 : h < a
    · exact ⟨h, by rw [if_pos h2], hl, by omega, by rw [clamp_tells, if_neg (by omega), if_neg (by omega)], by omega⟩
    · exact ⟨a, by rw [if_neg h2], by omega, by omega, by rw [clamp_tells, if_neg h1, if_neg h2], by omega⟩

theorem SafeClamps : sawtoothlaw01_SafeClamps.Pure := by
  intro a b c _ _ _
  have lt : a < b → safe_Clamp.f a b c = some b := fun h => by rw [clamp_tells, if_pos h]
  unfold sawtoothlaw01_SafeClamps.f
  rw [awake_tells]
  simp only [Option.bind_some, if_true]
  by_cases h1 : c < b
  · rw [if_pos h1, if_neg (by omega)]
    obtain ⟨n, e1, n0, n1, e2, n2⟩ := clamp_in a c b (by omega)
    rw [e1]
    simp only [Option.bind_some]
    rw [if_pos (by omega), if_pos (by omega), e2]
    simp only [Option.bind_some, if_true]
    by_cases h3 : a ≥ c
    · rw [if_pos h3, if_pos (by by_cases h4 : a ≤ b <;> simp [h4] <;> omega)]
      by_cases h5 : a ≥ b
      · rw [if_pos h5]
      · rw [if_neg h5, lt (by omega)]; simp
    · rw [if_neg h3, if_pos (by simp; omega)]
      by_cases h5 : a ≥ b
      · rw [if_pos h5]
      · rw [if_neg h5, lt (by omega)]; simp
  · rw [if_neg h1]
    by_cases h2 : b < c
    · rw [if_pos h2]
      obtain ⟨n, e1, n0, n1, e2, n2⟩ := clamp_in a b c (by omega)
      rw [e1]
      simp only [Option.bind_some]
      rw [if_pos (by omega), if_pos (by omega), e2]
      simp only [Option.bind_some, if_true]
      by_cases h3 : a ≥ b
      · rw [if_pos h3, if_pos (by by_cases h4 : a ≤ c <;> simp [h4] <;> omega)]
      · rw [if_neg h3, if_pos (by simp; omega)]
        have e3 := e1.symm.trans (lt (by omega))
        simp at e3
        simp [e3]
    · rw [if_neg h2]
      obtain ⟨n, e1, n0, n1, e2, n2⟩ := clamp_in a b b (by omega)
      rw [e1]
      simp only [Option.bind_some]
      rw [if_pos (by omega), if_pos (by omega), e2]
      simp only [Option.bind_some, if_true]
      by_cases h3 : a ≥ b
      · rw [if_pos h3, if_pos (by by_cases h4 : a ≤ b <;> simp [h4] <;> omega)]
      · rw [if_neg h3, if_pos (by simp; omega)]
        rw [lt (by omega)]; simp

end Go.Proofs.Ytdgnhmghniloiaa.Pure
