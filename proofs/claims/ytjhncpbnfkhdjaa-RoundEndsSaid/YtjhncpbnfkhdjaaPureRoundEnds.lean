/- RoundEnds over numbers alone: when all that was sent is told of a round is over, and ahead of its end it is not. -/
import Derived.Test.YtjhncpbnfkhdjaaPureCommon
import Derived.Test.YtjhncpbnfkhdjaaHpx6
import Derived.OpenShut
namespace Go.Proofs.Ytjhncpbnfkhdjaa.Pure
open Go.RowKit Go.Proofs.Ytjhncpbnfkhdjaa.Hp Go.Proofs.YtjhncpbnfkhdjaaW.PrintWords Go.Proofs.YtjhncpbnfkhdjaaW.PrintLast Go.Proofs.YtjhncpbnfkhdjaaW.PrintMore

theorem RoundEnds : sawtoothlaw09_RoundEnds.Pure := by
  intro a b c d ha hb hc hd
  obtain ⟨a0, a1⟩ := bounds_u32 ha
  obtain ⟨b0, b1⟩ := bounds_u32 hb
  obtain ⟨c0, c1⟩ := bounds_u32 hc
  obtain ⟨d0, d1⟩ := bounds_u32 hd
  refine ⟨5, ?_⟩
  unfold sawtoothlaw09_RoundEnds.f
  rw [awake_tells _ (by omega), wrap64_id (n := a) (by omega) (by omega), wrap64_id (n := b) (by omega) (by omega), wrap64_id (n := c) (by omega) (by omega), wrap64_id (n := d) (by omega) (by omega), wrap64_id (n := b + d) (by omega) (by omega), wrap64_id (n := c + d) (by omega) (by omega)]
  rw [ack_tells a b b (b + d) a0 (by omega) b0 b0 (by omega), ack_tells a b c (c + d) a0 (by omega) b0 c0 (by omega), if_neg (by omega : ¬ b < b)]
  by_cases h : c < b
  · simp [h]
  · simp [h, Int.not_lt.mp h]

end Go.Proofs.Ytjhncpbnfkhdjaa.Pure
