/- What each function of the reference of safe answers, of numbers of 64 bits. -/
import Derived.Test.YtdgnhmghniloiaaPureMath
import Derived.Test.YtdgnhmghniloiaaHpx10
import Derived.Test.YtdgnhmghniloiaaHpx11
import Derived.Test.YtdgnhmghniloiaaHpx5
import Derived.Test.YtdgnhmghniloiaaHpx6
import Derived.Test.YtdgnhmghniloiaaHpx7
import Derived.Test.YtdgnhmghniloiaaHpx8
import Derived.Test.YtdgnhmghniloiaaHpx9
import Derived.OpenShut
namespace Go.Proofs.Ytdgnhmghniloiaa.Pure
open Go.RowKit Go.Proofs.Ytdgnhmghniloiaa.Hp Go.Proofs.YtdgnhmghniloiaaW.PrintWords Go.Proofs.YtdgnhmghniloiaaW.PrintLast Go.Proofs.YtdgnhmghniloiaaW.PrintMore

theorem ref_plus (a b : Int) (ha : R a) (hb : R b) : sawtoothref01_Plus.f a b = some (if R (a + b) then (a + b, 0) else (0, 10)) := by
  unfold R at ha hb
  unfold sawtoothref01_Plus.f
  by_cases hr : R (a + b)
  · rw [if_pos hr, wrap64_id hr]
    unfold R at hr
    by_cases h1 : b > 0
    · rw [if_pos h1, wrap64_id (by unfold R; omega), if_neg (by omega), if_neg (by omega)]
    · rw [if_neg h1]
      by_cases h2 : b < 0
      · rw [if_pos h2, wrap64_id (by unfold R; omega), if_neg (by omega)]
      · rw [if_neg h2]
  · rw [if_neg hr]
    unfold R at hr
    by_cases h1 : b > 0
    · rw [if_pos h1, wrap64_id (by unfold R; omega), if_pos (by omega)]
    · rw [if_neg h1, if_pos (by omega : b < 0), wrap64_id (by unfold R; omega), if_pos (by omega)]

theorem ref_minus (a b : Int) (ha : R a) (hb : R b) : sawtoothref01_minus.f a b = some (if R (a - b) then (a - b, 0) else (0, 10)) := by
  unfold R at ha hb
  unfold sawtoothref01_minus.f
  by_cases hr : R (a - b)
  · rw [if_pos hr, wrap64_id hr]
    unfold R at hr
    by_cases h1 : b > 0
    · rw [if_pos h1, wrap64_id (by unfold R; omega), if_neg (by omega), if_neg (by omega)]
    · rw [if_neg h1]
      by_cases h2 : b < 0
      · rw [if_pos h2, wrap64_id (by unfold R; omega), if_neg (by omega)]
      · rw [if_neg h2]
  · rw [if_neg hr]
    unfold R at hr
    by_cases h1 : b > 0
    · rw [if_pos h1, wrap64_id (by unfold R; omega), if_pos (by omega)]
    · rw [if_neg h1, if_pos (by omega : b < 0), wrap64_id (by unfold R; omega), if_pos (by omega)]

theorem ediv_R {n b : Int} (hn : 0 ≤ n) (hb : 0 < b) : 0 ≤ n / b ∧ n / b ≤ n :=
  ⟨Int.ediv_nonneg hn (by omega), Int.ediv_le_self _ hn⟩

theorem over_iff (a b : Int) (_ha : R a) (_hb : R b) : sawtoothref01_Times.over a b = true ↔ ¬ R (a * b) := by
  unfold sawtoothref01_Times.over
  rcases Int.lt_trichotomy a 0 with h1 | h1 | h1
  · rw [if_neg (by omega : ¬ 0 < a), if_pos h1]
    rcases Int.lt_trichotomy b 0 with h2 | h2 | h2
    · rw [if_neg (by omega : ¬ 0 < b), if_pos h2]
      have e : Int.tdiv 9223372036854775807 a = -(9223372036854775807 / (-a)) := by
        have := Int.tdiv_neg 9223372036854775807 (-a)
        rw [Int.neg_neg] at this
        rw [this, Int.tdiv_eq_ediv_of_nonneg (by omega)]
      have q := ediv_R (n := 9223372036854775807) (b := -a) (by omega) (by omega)
      rw [e, wrap64_id (by unfold R; omega)]
      have k := Int.ediv_lt_iff_lt_mul (a := 9223372036854775807) (b := -b) (c := -a) (by omega)
      have m : -b * -a = a * b := by rw [Int.neg_mul_neg, Int.mul_comm]
      have p : 0 < a * b := Int.mul_pos_of_neg_of_neg h1 h2
      rw [m] at k
      unfold R
      rw [decide_eq_true_eq]
      constructor
      · intro h; have := k.1 (by omega); omega
      · intro h; have := k.2 (by omega); omega
    · subst h2
      simp [R]
    · rw [if_pos h2]
      have q := ediv_R (n := 9223372036854775808) (b := b) (by omega) h2
      rw [Int.tdiv_eq_ediv_of_nonneg (by omega), wrap64_id (by unfold R; omega)]
      have k := Int.ediv_lt_iff_lt_mul (a := 9223372036854775808) (b := -a) (c := b) h2
      rw [Int.neg_mul] at k
      have p : a * b ≤ 0 := Int.mul_nonpos_of_nonpos_of_nonneg (by omega) (by omega)
      unfold R
      rw [decide_eq_true_eq]
      constructor
      · intro h; have := k.1 (by omega); omega
      · intro h; have := k.2 (by omega); omega
  · subst h1
    simp [R]
  · rw [if_pos h1]
    rcases Int.lt_trichotomy b 0 with h2 | h2 | h2
    · rw [if_neg (by omega : ¬ 0 < b), if_pos h2]
      have q := ediv_R (n := 9223372036854775808) (b := a) (by omega) h1
      rw [Int.tdiv_eq_ediv_of_nonneg (by omega), wrap64_id (by unfold R; omega)]
      have k := Int.ediv_lt_iff_lt_mul (a := 9223372036854775808) (b := -b) (c := a) h1
      rw [Int.neg_mul, Int.mul_comm b a] at k
      have p : a * b ≤ 0 := Int.mul_nonpos_of_nonneg_of_nonpos (by omega) (by omega)
      unfold R
      rw [decide_eq_true_eq]
      constructor
      · intro h; have := k.1 (by omega); omega
      · intro h; have := k.2 (by omega); omega
    · subst h2
      simp [R]
    · rw [if_pos h2]
      have q := ediv_R (n := 9223372036854775807) (b := b) (by omega) h2
      rw [Int.tdiv_eq_ediv_of_nonneg (by omega), wrap64_id (by unfold R; omega)]
      have k := Int.ediv_lt_iff_lt_mul (a := 9223372036854775807) (b := a) (c := b) h2
      have p : 0 ≤ a * b := Int.mul_nonneg (by omega) (by omega)
      unfold R
      rw [decide_eq_true_eq, k]
      omega

theorem ref_times (a b : Int) (ha : R a) (hb : R b) : sawtoothref01_Times.f a b = some (if R (a * b) then (a * b, 0) else (0, 10)) := by
  unfold sawtoothref01_Times.f
  have h := over_iff a b ha hb
  by_cases hr : R (a * b)
  · rw [if_pos hr, if_neg (fun e => h.1 e hr), wrap64_id hr]
  · rw [if_neg hr, if_pos (h.2 hr)]

theorem ref_add (k : Nat) (a b : Int) (ha : R a) (hb : R b) : sawtoothref01_Add.f (k + 1) a b = some (sat (a + b)) := by
  unfold sawtoothref01_Add.f
  rw [ref_plus a b ha hb]
  by_cases h : R (a + b)
  · rw [if_pos h, sat_id h]; rfl
  · rw [if_neg h]
    simp only [Option.bind_some, sawtoothref01_Add.j0]
    rw [if_neg (by omega)]
    unfold R at ha hb h
    unfold sat
    by_cases h1 : a < 0
    · rw [if_pos (decide_eq_true h1), if_pos (by omega)]
    · rw [if_neg (by simpa using h1), if_neg (by omega), if_neg (by omega), if_pos (by omega)]

theorem ref_sub (k : Nat) (a b : Int) (ha : R a) (hb : R b) : sawtoothref01_Sub.f (k + 1) a b = some (sat (a - b)) := by
  unfold sawtoothref01_Sub.f
  rw [ref_minus a b ha hb]
  by_cases h : R (a - b)
  · rw [if_pos h, sat_id h]; rfl
  · rw [if_neg h]
    simp only [Option.bind_some, sawtoothref01_Sub.j0]
    rw [if_neg (by omega)]
    unfold R at ha hb h
    unfold sat
    by_cases h1 : a < 0
    · rw [if_pos (decide_eq_true h1), if_pos (by omega)]
    · rw [if_neg (by simpa using h1), if_neg (by omega), if_neg (by omega), if_pos (by omega)]

theorem ref_mul (k : Nat) (a b : Int) (ha : R a) (hb : R b) : sawtoothref01_Mul.f (k + 1) a b = some (sat (a * b)) := by
  unfold sawtoothref01_Mul.f
  rw [ref_times a b ha hb]
  by_cases h : R (a * b)
  · rw [if_pos h, sat_id h]; rfl
  · rw [if_neg h]
    simp only [Option.bind_some, sawtoothref01_Mul.j0]
    rw [if_neg (by omega)]
    unfold sat
    have hz : ¬ a * b = 0 := by intro e; rw [e] at h; exact h (by unfold R; omega)
    unfold R at h
    by_cases h1 : a > 0 <;> by_cases h2 : b > 0
    · have : 0 ≤ a * b := Int.mul_nonneg (by omega) (by omega)
      rw [if_neg (by simp [h1, h2]), if_neg (by omega), if_neg (by omega), if_pos (by omega)]
    · have : a * b ≤ 0 := Int.mul_nonpos_of_nonneg_of_nonpos (by omega) (by omega)
      rw [if_pos (by simp [h1, h2]), if_pos (by omega)]
    · have : a * b ≤ 0 := Int.mul_nonpos_of_nonpos_of_nonneg (by omega) (by omega)
      rw [if_pos (by simp [h1, h2]), if_pos (by omega)]
    · have : 0 ≤ a * b := Int.mul_nonneg_of_nonpos_of_nonpos (by omega) (by omega)
      rw [if_neg (by simp [h1, h2]), if_neg (by omega), if_neg (by omega), if_pos (by omega)]

theorem ref_abs (k : Nat) (a : Int) (ha : R a) : sawtoothref01_Abs.f (k + 1) a = some (sat (if a < 0 then -a else a)) := by
  unfold sawtoothref01_Abs.f
  by_cases h : a < 0
  · rw [if_pos h, if_pos h, ref_sub k 0 a (by unfold R; omega) ha, show 0 - a = -a from by omega]; rfl
  · rw [if_neg h, if_neg h, sat_id ha]

theorem ref_clamp (a b c : Int) : sawtoothref01_Clamp.f a b c = some (if a < b then b else if c < a then c else a) := by
  unfold sawtoothref01_Clamp.f
  split
  · rfl
  · split <;> rfl


end Go.Proofs.Ytdgnhmghniloiaa.Pure
