/- RoundLong over numbers alone: of any steps, a round never ends behind what was sent, and is over whenever all that was sent is told of. -/
import Derived.Test.YtjhncpbnfkhdjaaPureCommon
import Derived.Test.YtjhncpbnfkhdjaaHpx5
import Derived.OpenShut
namespace Go.Proofs.Ytjhncpbnfkhdjaa.Pure
open Go.RowKit Go.Proofs.Ytjhncpbnfkhdjaa.Hp Go.Proofs.YtjhncpbnfkhdjaaW.PrintWords Go.Proofs.YtjhncpbnfkhdjaaW.PrintLast Go.Proofs.YtjhncpbnfkhdjaaW.PrintMore

/-- From step i on: a round that ends at most at what was sent stays so. -/
theorem long_loop (l : List Int) (hb : ∀ x ∈ l, (Lit.int .u8 x).wf = true) (hl : l.length ≤ 1000) (d : Nat) :
    ∀ (k : Nat) (i s t id e : Int), 0 ≤ i → i + d = l.length → 0 ≤ t → t ≤ s → s ≤ 255 * i → 0 ≤ id → id ≤ i → 0 ≤ e → e ≤ s → d < k →
      sawtoothlaw09_RoundLong.l0 k l true s t i id e = some true := by
  induction d with
  | zero =>
    intro k i s t id e hi hd ht hs hsi hid hii he hes hk
    obtain ⟨k, rfl⟩ : ∃ m, k = m + 1 := ⟨k - 1, by omega⟩
    simp only [sawtoothlaw09_RoundLong.l0]
    rw [if_neg (by omega)]
    simp [round_Check.f, hid, he]
  | succ d ih =>
    intro k i s t id e hi hd ht hs hsi hid hii he hes hk
    obtain ⟨k, rfl⟩ : ∃ m, k = m + 1 := ⟨k - 1, by omega⟩
    have hlt : i < (l.length : Int) := by omega
    obtain ⟨b0, b1⟩ := rd_u8 hb i
    simp only [sawtoothlaw09_RoundLong.l0]
    rw [if_pos hlt, if_pos hi]
    rw [wrap64_id (n := rd l i) (by omega) (by omega), wrap64_id (n := i + 1) (by omega) (by omega)]
    by_cases hm : (rd l i).tmod 2 = 0
    · rw [if_pos hm, wrap64_id (by omega) (by omega)]
      exact ih k (i + 1) (s + rd l i) t id e (by omega) (by omega) ht (by omega) (by omega) hid (by omega) he (by omega) (by omega)
    · rw [if_neg hm, wrap64_id (n := t + rd l i) (by omega) (by omega)]
      by_cases hc : t + rd l i < s
      · rw [if_pos hc, ack_tells id e (t + rd l i) s hid (by omega) he (by omega) (by omega)]
        by_cases ho : t + rd l i < e
        · rw [if_pos ho]
          simp only [Option.bind_some, if_true]
          rw [if_neg (by omega), if_neg (by omega), if_neg (by omega)]
          exact ih k (i + 1) s (t + rd l i) id e (by omega) (by omega) (by omega) (by omega) (by omega) hid (by omega) he hes (by omega)
        · rw [if_neg ho]
          simp only [Option.bind_some, if_true]
          rw [if_neg (by omega), if_neg (by omega), if_neg (by omega)]
          exact ih k (i + 1) s (t + rd l i) (id + 1) s (by omega) (by omega) (by omega) (by omega) (by omega) (by omega) (by omega) (by omega) (by omega) (by omega)
      · rw [if_neg hc, ack_tells id e s s hid (by omega) he (by omega) (by omega), if_neg (by omega : ¬ s < e)]
        simp only [Option.bind_some, if_true]
        rw [if_neg (by omega), if_neg (by omega)]
        exact ih k (i + 1) s s (id + 1) s (by omega) (by omega) (by omega) (by omega) (by omega) (by omega) (by omega) (by omega) (by omega) (by omega)

theorem RoundLong : sawtoothlaw09_RoundLong.Pure := by
  intro l hm hr hb
  refine ⟨l.length + 6, ?_⟩
  unfold sawtoothlaw09_RoundLong.f
  rw [awake_tells _ (by omega)]
  simp only [Option.bind_some]
  by_cases h : (l.length : Int) > 1000
  · rw [if_pos h]
  · rw [if_neg h, begin_tells]
    simp only [Option.bind_some]
    exact long_loop l hb (by omega) l.length _ 0 0 0 0 _ (by omega) (by omega) (by omega) (by omega) (by omega) (by omega) (by omega) (by unfold mx; omega) (by unfold mx; omega) (by omega)

end Go.Proofs.Ytjhncpbnfkhdjaa.Pure
