/- SafeParts over numbers alone: a product goes with sums, as long as nothing is held. -/
import Derived.Test.YtdgnhmghniloiaaPureTells
import Derived.Test.YtdgnhmghniloiaaHpx17
import Derived.OpenShut
namespace Go.Proofs.Ytdgnhmghniloiaa.Pure
open Go.RowKit Go.Proofs.Ytdgnhmghniloiaa.Hp Go.Proofs.YtdgnhmghniloiaaW.PrintWords Go.Proofs.YtdgnhmghniloiaaW.PrintLast Go.Proofs.YtdgnhmghniloiaaW.PrintMore

theorem SafeParts : sawtoothlaw01_SafeParts.Pure := by
  intro a b c x y z ha hb hc hx hy hz
  have ha := bounds_i32 ha
  have hb := bounds_i32 hb
  have hc := bounds_i32 hc
  have hx : R x := bounds_i64 hx
  have hy : R y := bounds_i64 hy
  have hz : R z := bounds_i64 hz
  have zz : R 0 := by unfold R; omega
  refine ⟨1, ?_⟩
  have end_ : sawtoothlaw01_SafeParts.j0 1 b c true (wrap64 a) true = some true := by
    have ra : R a := by unfold R; omega
    have rb : R b := by unfold R; omega
    have rc : R c := by unfold R; omega
    have p1 : ∀ u : Int, -2147483648 ≤ u → u ≤ 2147483648 → R (a * u) := by
      intro u h0 h1
      have k : (a * u).natAbs ≤ 2147483648 * 2147483648 := by
        rw [Int.natAbs_mul]
        exact Nat.mul_le_mul (by omega) (by omega)
      unfold R
      omega
    simp only [sawtoothlaw01_SafeParts.j0]
    have e1 := p1 b (by omega) (by omega)
    have e2 := p1 c (by omega) (by omega)
    have rbc : R (b + c) := by unfold R; omega
    rw [wrap64_id ra, wrap64_id rb, wrap64_id rc, add_tells b c rb rc, sat_id rbc]
    simp only [Option.bind_some, if_true]
    rw [mul_tells a (b + c) ra rbc, mul_tells a b ra rb, mul_tells a c ra rc, sat_id e1, sat_id e2]
    simp only [Option.bind_some]
    rw [add_tells _ _ e1 e2, ← Int.mul_add]
    simp
  unfold sawtoothlaw01_SafeParts.f
  rw [awake_tells, plus_tells x y hx hy, plus_tells y z hy hz]
  simp only [Option.bind_some]
  by_cases h1 : R (x + y)
  · rw [if_pos h1, plus_tells (x + y) z h1 hz]
    by_cases h2 : R (y + z)
    · rw [if_pos h2, plus_tells x (y + z) hx h2]
      simp only [Option.bind_some, if_true]
      by_cases h3 : R (x + y + z)
      · rw [if_pos h3, show x + (y + z) = x + y + z from by omega, if_pos h3]
        simp only [if_true, beq_self_eq_true]
        exact end_
      · rw [if_neg h3]
        simp only
        rw [if_neg (by omega)]
        exact end_
    · rw [if_neg h2, plus_tells x 0 hx zz]
      simp only [Option.bind_some, if_true]
      by_cases h3 : R (x + y + z)
      · rw [if_pos h3]
        simp only [if_true]
        rw [if_neg (by omega)]
        exact end_
      · rw [if_neg h3]
        simp only
        rw [if_neg (by omega)]
        exact end_
  · rw [if_neg h1, plus_tells 0 z zz hz]
    by_cases h2 : R (y + z)
    · rw [if_pos h2, plus_tells x (y + z) hx h2]
      simp only [Option.bind_some]
      rw [if_neg (by omega)]
      exact end_
    · rw [if_neg h2, plus_tells x 0 hx zz]
      simp only [Option.bind_some]
      rw [if_neg (by omega)]
      exact end_

end Go.Proofs.Ytdgnhmghniloiaa.Pure
