/- Plain facts on numbers of 64 bits: wrapped, and held at the edges. -/
import Derived.RowKit
import Derived.OpenShut
namespace Go.Proofs.Ytjanmaddjjhjbaa.Pure
open Go.RowKit

/-- In the bounds of a number of 64 bits. -/
def R (n : Int) : Prop := -9223372036854775808 ≤ n ∧ n ≤ 9223372036854775807
instance (n : Int) : Decidable (R n) := by unfold R; infer_instance
/-- Held at the edges. -/
def sat (n : Int) : Int := if n < -9223372036854775808 then -9223372036854775808 else if 9223372036854775807 < n then 9223372036854775807 else n

theorem wrap64_id {n : Int} (h : R n) : wrap64 n = n := by unfold R at h; unfold wrap64; omega
theorem wrap64_R (n : Int) : R (wrap64 n) := by unfold R wrap64; omega
theorem sat_R (n : Int) : R (sat n) := by unfold R sat; split <;> (try split) <;> omega
theorem sat_id {n : Int} (h : R n) : sat n = n := by unfold R at h; unfold sat; rw [if_neg (by omega), if_neg (by omega)]
theorem sat_mono {m n : Int} (h : m ≤ n) : sat m ≤ sat n := by unfold sat; split <;> (try split) <;> (try split) <;> (try split) <;> omega

theorem tmod_small (n b : Int) (hb : b ≠ 0) : (n.tmod b).natAbs < b.natAbs := by
  rw [Int.natAbs_tmod]
  exact Nat.mod_lt _ (by omega)

/-- The quotient of a wrapped product tells whether it was wrapped. -/
theorem quot_iff (a b : Int) (ha : R a) (hb : R b) (hb0 : b ≠ 0) (hs : ¬ (b = -1 ∧ a = -9223372036854775808)) :
    wrap64 (Int.tdiv (wrap64 (a * b)) b) = a ↔ R (a * b) := by
  constructor
  · intro h
    have e := Int.mul_tdiv_add_tmod (wrap64 (a * b)) b
    have hm := tmod_small (wrap64 (a * b)) b hb0
    have hn := wrap64_R (a * b)
    have hw : ∃ t : Int, wrap64 (a * b) = a * b + 18446744073709551616 * t := ⟨-((a * b + 9223372036854775808) / 18446744073709551616), by unfold wrap64; omega⟩
    obtain ⟨t, ht⟩ := hw
    have hq : (Int.tdiv (wrap64 (a * b)) b) = a := by
      have hle : ((wrap64 (a * b)).tdiv b).natAbs ≤ (wrap64 (a * b)).natAbs := by rw [Int.natAbs_tdiv]; exact Nat.div_le_self _ _
      have hne : ¬ (wrap64 (a * b)).tdiv b = 9223372036854775808 := by
        intro hq
        have ha' : a = -9223372036854775808 := by rw [hq] at h; unfold wrap64 at h; omega
        have hb' : b = -1 := by
          rw [hq] at e
          unfold R at hn hb
          omega
        exact hs ⟨hb', ha'⟩
      unfold R at hn
      rw [wrap64_id (by unfold R; omega)] at h
      exact h
    rw [hq] at e
    generalize hr : (wrap64 (a * b)).tmod b = r at *
    have hc : b * a = a * b := Int.mul_comm b a
    rw [hc] at e
    generalize a * b = m at *
    unfold R at hb hn ⊢
    omega
  · intro h
    rw [wrap64_id h, Int.mul_tdiv_cancel a hb0, wrap64_id ha]

theorem mul_lt_max {a b : Int} (hb : 0 < b) : 9223372036854775807 / b < a ↔ 9223372036854775807 < a * b := Int.ediv_lt_iff_lt_mul hb

end Go.Proofs.Ytjanmaddjjhjbaa.Pure
