/- What each function of safe answers, of numbers of 64 bits. -/
import Derived.Test.YtdgnhmghniloiaaPureMath
import Derived.Test.YtdgnhmghniloiaaHpx1
import Derived.Test.YtdgnhmghniloiaaHpx2
import Derived.Test.YtdgnhmghniloiaaHpx3
import Derived.Test.YtdgnhmghniloiaaHpx4
import Derived.OpenShut
namespace Go.Proofs.Ytdgnhmghniloiaa.Pure
open Go.RowKit Go.Proofs.Ytdgnhmghniloiaa.Hp Go.Proofs.YtdgnhmghniloiaaW.PrintWords Go.Proofs.YtdgnhmghniloiaaW.PrintLast Go.Proofs.YtdgnhmghniloiaaW.PrintMore

theorem plus_tells (a b : Int) (ha : R a) (hb : R b) : safe_Plus.f a b = some (if R (a + b) then (a + b, 0) else (0, 10)) := by
  unfold R at ha hb
  unfold safe_Plus.f
  by_cases hr : R (a + b)
  · rw [if_pos hr, wrap64_id hr]
    by_cases h1 : a ≥ 0 <;> by_cases h2 : b ≥ 0
    · rw [decide_eq_true h1, decide_eq_true h2, decide_eq_true (by omega : a + b ≥ 0)]; rfl
    · rw [decide_eq_true h1, decide_eq_false h2]; rfl
    · rw [decide_eq_false h1, decide_eq_true h2]; rfl
    · rw [decide_eq_false h1, decide_eq_false h2, decide_eq_false (by omega : ¬ a + b ≥ 0)]; rfl
  · rw [if_neg hr]
    unfold R at hr
    by_cases h1 : a ≥ 0 <;> by_cases h2 : b ≥ 0
    · rw [decide_eq_true h1, decide_eq_true h2, decide_eq_false (by unfold wrap64; omega : ¬ wrap64 (a + b) ≥ 0)]; rfl
    · exfalso; omega
    · exfalso; omega
    · rw [decide_eq_false h1, decide_eq_false h2, decide_eq_true (by unfold wrap64; omega : wrap64 (a + b) ≥ 0)]; rfl

theorem times_tells (a b : Int) (ha : R a) (hb : R b) : safe_Times.f a b = some (if R (a * b) then (a * b, 0) else (0, 10)) := by
  have big : ¬ R (-9223372036854775808 * -1) := by unfold R; omega
  have big' : ¬ R (-1 * -9223372036854775808) := by unfold R; omega
  have main : ¬ (b = -1 ∧ a = -9223372036854775808) → (if b = 0 then some (wrap64 (a * b), (0 : Int)) else if wrap64 (Int.tdiv (wrap64 (a * b)) b) = a then some (wrap64 (a * b), 0) else some (0, 10)) = some (if R (a * b) then (a * b, 0) else (0, 10)) := by
    intro hs
    by_cases h0 : b = 0
    · subst h0
      rw [if_pos rfl, Int.mul_zero, if_pos (by unfold R; omega), wrap64_id (by unfold R; omega)]
    · rw [if_neg h0]
      by_cases hr : R (a * b)
      · rw [if_pos ((quot_iff a b ha hb h0 hs).2 hr), if_pos hr, wrap64_id hr]
      · rw [if_neg (fun h => hr ((quot_iff a b ha hb h0 hs).1 h)), if_neg hr]
  unfold safe_Times.f
  by_cases h1 : a = -1
  · rw [if_pos h1]
    by_cases h2 : b = -9223372036854775808
    · rw [if_pos h2]; subst h1 h2; rw [if_neg big']
    · rw [if_neg h2]
      by_cases h3 : b = -1
      · rw [if_pos h3, if_neg (by omega)]; exact main (by omega)
      · rw [if_neg h3]; exact main (by omega)
  · rw [if_neg h1]
    by_cases h3 : b = -1
    · rw [if_pos h3]
      by_cases h4 : a = -9223372036854775808
      · rw [if_pos h4]; subst h3 h4; rw [if_neg big]
      · rw [if_neg h4]; exact main (by omega)
    · rw [if_neg h3]; exact main (by omega)

theorem add_tells (a b : Int) (ha : R a) (hb : R b) : safe_Add.f a b = some (sat (a + b)) := by
  unfold safe_Add.f
  rw [plus_tells a b ha hb]
  by_cases h : R (a + b)
  · rw [if_pos h, sat_id h]; rfl
  · rw [if_neg h]
    simp only [Option.bind_some]
    rw [if_neg (by omega)]
    unfold R at ha hb h
    unfold sat
    by_cases h1 : a < 0
    · rw [if_pos h1, if_pos (by omega)]
    · rw [if_neg h1, if_neg (by omega), if_pos (by omega)]

theorem sub_tells (a b : Int) (ha : R a) (hb : R b) : safe_Sub.f a b = some (sat (a - b)) := by
  unfold safe_Sub.f
  by_cases h : b = -9223372036854775808
  · subst h
    rw [if_pos rfl, add_tells a _ ha (by unfold R; omega)]
    simp only [Option.bind_some]
    unfold R at ha
    by_cases h1 : a < 0
    · rw [if_pos h1, sat_id (n := a + 9223372036854775807) (by unfold R; omega), add_tells _ _ (by unfold R; omega) (by unfold R; omega)]
      congr 2; omega
    · rw [if_neg h1, add_tells _ _ (sat_R _) (by unfold R; omega)]
      congr 1
      unfold sat
      (repeat' split) <;> omega
  · rw [if_neg h]
    unfold R at hb
    rw [wrap64_id (n := -b) (by unfold R; omega), add_tells a (-b) ha (by unfold R; omega)]
    congr 2

theorem mul_tells (a b : Int) (ha : R a) (hb : R b) : safe_Mul.f a b = some (sat (a * b)) := by
  unfold safe_Mul.f
  rw [times_tells a b ha hb]
  by_cases h : R (a * b)
  · rw [if_pos h, sat_id h]; rfl
  · rw [if_neg h]
    simp only [Option.bind_some]
    rw [if_neg (by omega)]
    have hs : a * b ≠ 0 := by intro e; rw [e] at h; exact h (by unfold R; omega)
    unfold sat
    unfold R at h
    by_cases h1 : a < 0 <;> by_cases h2 : b < 0
    · have := Int.mul_pos_of_neg_of_neg h1 h2
      rw [if_neg (by simp [h1, h2]), if_neg (by omega), if_pos (by omega)]
    · have : a * b ≤ 0 := Int.mul_nonpos_of_nonpos_of_nonneg (by omega) (by omega)
      rw [if_pos (by simp [h1, h2]), if_pos (by omega)]
    · have : a * b ≤ 0 := Int.mul_nonpos_of_nonneg_of_nonpos (by omega) (by omega)
      rw [if_pos (by simp [h1, h2]), if_pos (by omega)]
    · have : 0 ≤ a * b := Int.mul_nonneg (by omega) (by omega)
      rw [if_neg (by simp [h1, h2]), if_neg (by omega), if_pos (by omega)]

theorem abs_tells (a : Int) (ha : R a) : safe_Abs.f a = some (sat (if a < 0 then -a else a)) := by
  unfold safe_Abs.f
  rw [sub_tells 0 a (by unfold R; omega) ha]
  simp only [Option.bind_some]
  by_cases h : a < 0
  · rw [if_pos h, if_pos (by unfold sat; (repeat' split) <;> omega), show 0 - a = -a from by omega]
  · rw [if_neg h, sat_id ha, if_neg (by unfold R at ha; unfold sat; (repeat' split) <;> omega)]

theorem clamp_tells (a b c : Int) : safe_Clamp.f a b c = some (if a < b then b else if c < a then c else a) := by
  unfold safe_Clamp.f
  split
  · rfl
  · split <;> rfl

theorem awake_tells : sawtoothlaw01_awake.f = some true := rfl

end Go.Proofs.Ytdgnhmghniloiaa.Pure
