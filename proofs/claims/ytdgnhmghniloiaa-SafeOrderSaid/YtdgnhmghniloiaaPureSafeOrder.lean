/- SafeOrder over numbers alone: sums and products do not hang on the order of two, and rise. -/
import Derived.Test.YtdgnhmghniloiaaPureTells
import Derived.Test.YtdgnhmghniloiaaHpx14
import Derived.OpenShut
namespace Go.Proofs.Ytdgnhmghniloiaa.Pure
open Go.RowKit Go.Proofs.Ytdgnhmghniloiaa.Hp Go.Proofs.YtdgnhmghniloiaaW.PrintWords Go.Proofs.YtdgnhmghniloiaaW.PrintLast Go.Proofs.YtdgnhmghniloiaaW.PrintMore

theorem body (a b c l h k : Int) (ha : R a) (hb : R b) (hc : R c) (hl : R l) (hh : R h) (hk : R k) (k0 : 0 ≤ k) (lh : l ≤ h) :
    ((safe_Add.f a b).bind fun t => ((safe_Add.f b a).bind fun u => (if t = u then ((safe_Mul.f a b).bind fun t => ((safe_Mul.f b a).bind fun u => (if t = u then
      ((safe_Add.f l c).bind fun t => ((safe_Add.f h c).bind fun u => (if t ≤ u then ((safe_Sub.f l c).bind fun t => ((safe_Sub.f h c).bind fun u => (if t ≤ u then
        ((safe_Sub.f c l).bind fun t => ((safe_Sub.f c h).bind fun u => (if t ≥ u then ((safe_Mul.f l k).bind fun t => ((safe_Mul.f h k).bind fun u => (some (decide (t ≤ u))))) else (some false)))) else (some false)))) else (some false)))) else (some false)))) else (some false)))) = some true := by
  rw [add_tells a b ha hb, add_tells b a hb ha, mul_tells a b ha hb, mul_tells b a hb ha, add_tells l c hl hc, add_tells h c hh hc, sub_tells l c hl hc, sub_tells h c hh hc, sub_tells c l hc hl, sub_tells c h hc hh, mul_tells l k hl hk, mul_tells h k hh hk]
  simp only [Option.bind_some]
  rw [if_pos (by rw [Int.add_comm]), if_pos (by rw [Int.mul_comm]), if_pos (sat_mono (by omega)), if_pos (sat_mono (by omega)), if_pos (sat_mono (by omega)), decide_eq_true (sat_mono (Int.mul_le_mul_of_nonneg_right lh k0))]

theorem SafeOrder : sawtoothlaw01_SafeOrder.Pure := by
  intro a b c ha hb hc
  have ha : R a := bounds_i64 ha
  have hb : R b := bounds_i64 hb
  have hc : R c := bounds_i64 hc
  have z : R 0 := by unfold R; omega
  unfold sawtoothlaw01_SafeOrder.f
  rw [awake_tells]
  simp only [Option.bind_some, if_true]
  by_cases h1 : b < a
  · rw [if_pos h1, if_neg (by omega)]
    by_cases h3 : c < 0
    · rw [if_pos h3]; exact body a b c b a 0 ha hb hc hb ha z (by omega) (by omega)
    · rw [if_neg h3]; exact body a b c b a c ha hb hc hb ha hc (by omega) (by omega)
  · rw [if_neg h1]
    by_cases h2 : a < b
    · rw [if_pos h2]
      by_cases h3 : c < 0
      · rw [if_pos h3]; exact body a b c a b 0 ha hb hc ha hb z (by omega) (by omega)
      · rw [if_neg h3]; exact body a b c a b c ha hb hc ha hb hc (by omega) (by omega)
    · rw [if_neg h2]
      by_cases h3 : c < 0
      · rw [if_pos h3]; exact body a b c a a 0 ha hb hc ha ha z (by omega) (by omega)
      · rw [if_neg h3]; exact body a b c a a c ha hb hc ha ha hc (by omega) (by omega)

end Go.Proofs.Ytdgnhmghniloiaa.Pure
