/- Of the rounds: what a step tells, and that awake is true. -/
import Derived.Test.YtjhncpbnfkhdjaaHpx2
import Derived.Test.YtjhncpbnfkhdjaaHpx3
import Derived.Test.YtjhncpbnfkhdjaaHpx4
import Derived.OpenShut
namespace Go.Proofs.Ytjhncpbnfkhdjaa.Pure
open Go.RowKit Go.Proofs.Ytjhncpbnfkhdjaa.Hp Go.Proofs.YtjhncpbnfkhdjaaW.PrintWords Go.Proofs.YtjhncpbnfkhdjaaW.PrintLast Go.Proofs.YtjhncpbnfkhdjaaW.PrintMore

theorem wrap64_id {n : Int} (h0 : -9223372036854775808 ≤ n) (h1 : n ≤ 9223372036854775807) : wrap64 n = n := by unfold wrap64; omega
theorem rd_u8 {l : List Int} (h : ∀ x ∈ l, (Lit.int .u8 x).wf = true) (i : Int) : 0 ≤ rd l i ∧ rd l i ≤ 255 := by
  unfold rd
  rw [List.getD_eq_getElem?_getD]
  exact range_u8 h _

/-- What Ack tells, of a round that may be and is not at its greatest number. -/
theorem ack_tells (i e t s : Int) (hi : 0 ≤ i) (hm : i < 9223372036854775807) (he : 0 ≤ e) (ht : 0 ≤ t) (hs : t ≤ s) :
    round_Ack.f i e t s = some (if t < e then (i, e, false, 0) else (i + 1, s, true, 0)) := by
  unfold round_Ack.f
  rw [if_neg (by omega), if_neg (by omega), if_neg (by omega), if_neg (by omega)]
  by_cases h : t < e
  · rw [if_pos h, if_pos h]
  · rw [if_neg h, if_neg h, if_neg (by omega), wrap64_id (by omega) (by omega)]

theorem begin_tells (n : Int) : round_Begin.f n = some (0, mx n 0) := by
  unfold round_Begin.f mx
  split <;> rfl

theorem awake_tells (k : Nat) (hk : 5 ≤ k) : sawtoothlaw09_awake.f k = some true := by
  have h : sawtoothlaw09_awake.f 5 = some true := by decide +kernel
  exact at_rounds (fun k => sawtoothlaw09_awake.mono k) hk h
end Go.Proofs.Ytjhncpbnfkhdjaa.Pure
