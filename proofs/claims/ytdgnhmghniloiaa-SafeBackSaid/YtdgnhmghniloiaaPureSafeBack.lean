/- SafeBack over numbers alone: what was added is taken away again, unless it was held. -/
import Derived.Test.YtdgnhmghniloiaaPureTells
import Derived.Test.YtdgnhmghniloiaaHpx13
import Derived.OpenShut
namespace Go.Proofs.Ytdgnhmghniloiaa.Pure
open Go.RowKit Go.Proofs.Ytdgnhmghniloiaa.Hp Go.Proofs.YtdgnhmghniloiaaW.PrintWords Go.Proofs.YtdgnhmghniloiaaW.PrintLast Go.Proofs.YtdgnhmghniloiaaW.PrintMore

theorem SafeBack : sawtoothlaw01_SafeBack.Pure := by
  intro a b ha hb
  have ha : R a := bounds_i64 ha
  have hb : R b := bounds_i64 hb
  unfold sawtoothlaw01_SafeBack.f
  rw [awake_tells, plus_tells a b ha hb, times_tells a b ha hb, mul_tells a b ha hb, add_tells a b ha hb]
  simp only [Option.bind_some]
  by_cases h1 : R (a + b)
  · have hs : safe_Sub.f (a + b) b = some a := by rw [sub_tells _ _ h1 hb, Int.add_sub_cancel, sat_id ha]
    rw [if_pos h1, sat_id h1]
    simp only [hs, Option.bind_some, if_true]
    by_cases h2 : R (a * b)
    · rw [if_pos h2, sat_id h2]
      by_cases h0 : b = 0
      · simp [h0]
      · simp [h0, wrap64_id ha]
    · rw [if_neg h2]
      simp
  · rw [if_neg h1]
    by_cases h2 : R (a * b)
    · rw [if_pos h2, sat_id h2]
      by_cases h0 : b = 0
      · simp [h0]
      · simp [h0, wrap64_id ha]
    · rw [if_neg h2]
      simp

end Go.Proofs.Ytdgnhmghniloiaa.Pure
