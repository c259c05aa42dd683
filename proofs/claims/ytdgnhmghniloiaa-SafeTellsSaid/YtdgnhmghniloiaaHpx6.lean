/- Functions of the program as Lean functions, each with its contract: the call comes to that answer. Told by wip/tools/handprint.py of this session. -/
import Derived.Test.YtdgnhmghniloiaaHpx0
namespace Go.Proofs.Ytdgnhmghniloiaa.Hp
open Go.RowKit Go.Proofs.YtdgnhmghniloiaaW.PrintWords Go.Proofs.YtdgnhmghniloiaaW.PrintLast Go.Proofs.YtdgnhmghniloiaaW.PrintMore
attribute [local go_sem] max2_int min2_int max_two min_two max_three min_three max_four min_four   -- for this text's walks alone
set_option linter.unusedVariables false
set_option linter.unusedSimpArgs false

/-! ### sawtoothref01_Times: function 13 -/
/-- Is the product beyond the edges? As the reference asks. -/
def sawtoothref01_Times.over (a b : Int) : Bool :=
  if 0 < a then (if 0 < b then decide (wrap64 (Int.tdiv 9223372036854775807 b) < a) else if b < 0 then decide (b < wrap64 (-Int.tdiv 9223372036854775808 a)) else false)
  else if a < 0 then (if 0 < b then decide (a < wrap64 (-Int.tdiv 9223372036854775808 b)) else if b < 0 then decide (b < wrap64 (Int.tdiv 9223372036854775807 a)) else false) else false
def sawtoothref01_Times.f (a0 a1 : Int) : Option (Int × Int) := if sawtoothref01_Times.over a0 a1 = true then some (0, 10) else some (wrap64 (a0 * a1), 0)
set_option maxHeartbeats 1600000 in
set_option maxRecDepth 100000 in
theorem sawtoothref01_Times.calls (a0 a1 : Int) (r1 r2 : Int) (w : World) (h : sawtoothref01_Times.f a0 a1 = some (r1, r2)) :
    Calls Try.prog 13 #[.int .i64 a0, .int .i64 a1] w fun e w' => e = .returned (.tuple #[.int .i64 r1, .int .i64 r2]) ∧ Drawn0 w w' := by
  unfold sawtoothref01_Times.f sawtoothref01_Times.over at h
  rcases Int.lt_trichotomy a0 0 with ha | ha | ha
  · rw [if_neg (show ¬ 0 < a0 by omega), if_pos ha] at h
    have d1 : decide (0 < a0) = false := decide_eq_false (by omega)
    have d2 : decide (a0 < 0) = true := decide_eq_true ha
    have d5 : (a0 == 0) = false := beq_eq_false_iff_ne.2 (by omega)
    have d9 : ¬ a0 = 0 := by omega
    rcases Int.lt_trichotomy a1 0 with hb | hb | hb
    · rw [if_neg (show ¬ 0 < a1 by omega), if_pos hb] at h
      have d3 : decide (0 < a1) = false := decide_eq_false (by omega)
      have d4 : decide (a1 < 0) = true := decide_eq_true hb
      have d6 : (a1 == 0) = false := beq_eq_false_iff_ne.2 (by omega)
      have d10 : ¬ a1 = 0 := by omega
      by_cases ho : a1 < wrap64 (Int.tdiv 9223372036854775807 a0)
      · have d7 : decide (a1 < wrap64 (Int.tdiv 9223372036854775807 a0)) = true := decide_eq_true ho
        rw [d7] at h
        simp only [if_true, Option.some.injEq, Prod.mk.injEq] at h
        obtain ⟨rfl, rfl⟩ := h
        clear ha hb ho
        go_enter Try.func13, Try.ntmps13
        go_wp2
        go_ret2
        exact ⟨rfl, by repeat (first | exact Drawn0.refl _ | apply Drawn0.step)⟩
      · have d7 : decide (a1 < wrap64 (Int.tdiv 9223372036854775807 a0)) = false := decide_eq_false ho
        rw [d7] at h
        simp only [Bool.false_eq_true, if_false, Option.some.injEq, Prod.mk.injEq] at h
        obtain ⟨rfl, rfl⟩ := h
        clear ha hb ho
        go_enter Try.func13, Try.ntmps13
        go_wp2
        go_ret2
        exact ⟨rfl, by repeat (first | exact Drawn0.refl _ | apply Drawn0.step)⟩
    · subst hb
      simp at h
      obtain ⟨rfl, rfl⟩ := h
      clear ha
      go_enter Try.func13, Try.ntmps13
      go_wp2
      go_ret2
      exact ⟨by first | rfl | simp [wrap64], by repeat (first | exact Drawn0.refl _ | apply Drawn0.step)⟩
    · rw [if_pos hb] at h
      have d3 : decide (0 < a1) = true := decide_eq_true hb
      have d4 : decide (a1 < 0) = false := decide_eq_false (by omega)
      have d6 : (a1 == 0) = false := beq_eq_false_iff_ne.2 (by omega)
      have d10 : ¬ a1 = 0 := by omega
      by_cases ho : a0 < wrap64 (-Int.tdiv 9223372036854775808 a1)
      · have d7 : decide (a0 < wrap64 (-Int.tdiv 9223372036854775808 a1)) = true := decide_eq_true ho
        rw [d7] at h
        simp only [if_true, Option.some.injEq, Prod.mk.injEq] at h
        obtain ⟨rfl, rfl⟩ := h
        clear ha hb ho
        go_enter Try.func13, Try.ntmps13
        go_wp2
        go_ret2
        exact ⟨rfl, by repeat (first | exact Drawn0.refl _ | apply Drawn0.step)⟩
      · have d7 : decide (a0 < wrap64 (-Int.tdiv 9223372036854775808 a1)) = false := decide_eq_false ho
        rw [d7] at h
        simp only [Bool.false_eq_true, if_false, Option.some.injEq, Prod.mk.injEq] at h
        obtain ⟨rfl, rfl⟩ := h
        clear ha hb ho
        go_enter Try.func13, Try.ntmps13
        go_wp2
        go_ret2
        exact ⟨rfl, by repeat (first | exact Drawn0.refl _ | apply Drawn0.step)⟩
  · subst ha
    simp at h
    obtain ⟨rfl, rfl⟩ := h
    go_enter Try.func13, Try.ntmps13
    go_wp2
    go_ret2
    exact ⟨by first | rfl | simp [wrap64], by repeat (first | exact Drawn0.refl _ | apply Drawn0.step)⟩
  · rw [if_pos ha] at h
    have d1 : decide (0 < a0) = true := decide_eq_true ha
    have d2 : decide (a0 < 0) = false := decide_eq_false (by omega)
    have d5 : (a0 == 0) = false := beq_eq_false_iff_ne.2 (by omega)
    have d9 : ¬ a0 = 0 := by omega
    rcases Int.lt_trichotomy a1 0 with hb | hb | hb
    · rw [if_neg (show ¬ 0 < a1 by omega), if_pos hb] at h
      have d3 : decide (0 < a1) = false := decide_eq_false (by omega)
      have d4 : decide (a1 < 0) = true := decide_eq_true hb
      have d6 : (a1 == 0) = false := beq_eq_false_iff_ne.2 (by omega)
      have d10 : ¬ a1 = 0 := by omega
      by_cases ho : a1 < wrap64 (-Int.tdiv 9223372036854775808 a0)
      · have d7 : decide (a1 < wrap64 (-Int.tdiv 9223372036854775808 a0)) = true := decide_eq_true ho
        rw [d7] at h
        simp only [if_true, Option.some.injEq, Prod.mk.injEq] at h
        obtain ⟨rfl, rfl⟩ := h
        clear ha hb ho
        go_enter Try.func13, Try.ntmps13
        go_wp2
        go_ret2
        exact ⟨rfl, by repeat (first | exact Drawn0.refl _ | apply Drawn0.step)⟩
      · have d7 : decide (a1 < wrap64 (-Int.tdiv 9223372036854775808 a0)) = false := decide_eq_false ho
        rw [d7] at h
        simp only [Bool.false_eq_true, if_false, Option.some.injEq, Prod.mk.injEq] at h
        obtain ⟨rfl, rfl⟩ := h
        clear ha hb ho
        go_enter Try.func13, Try.ntmps13
        go_wp2
        go_ret2
        exact ⟨rfl, by repeat (first | exact Drawn0.refl _ | apply Drawn0.step)⟩
    · subst hb
      simp at h
      obtain ⟨rfl, rfl⟩ := h
      clear ha
      go_enter Try.func13, Try.ntmps13
      go_wp2
      go_ret2
      exact ⟨by first | rfl | simp [wrap64], by repeat (first | exact Drawn0.refl _ | apply Drawn0.step)⟩
    · rw [if_pos hb] at h
      have d3 : decide (0 < a1) = true := decide_eq_true hb
      have d4 : decide (a1 < 0) = false := decide_eq_false (by omega)
      have d6 : (a1 == 0) = false := beq_eq_false_iff_ne.2 (by omega)
      have d10 : ¬ a1 = 0 := by omega
      by_cases ho : wrap64 (Int.tdiv 9223372036854775807 a1) < a0
      · have d7 : decide (wrap64 (Int.tdiv 9223372036854775807 a1) < a0) = true := decide_eq_true ho
        have d8 : decide (wrap64 (9223372036854775807 / a1) < a0) = true := by rw [← Int.tdiv_eq_ediv_of_nonneg (by omega)]; exact d7
        rw [d7] at h
        simp only [if_true, Option.some.injEq, Prod.mk.injEq] at h
        obtain ⟨rfl, rfl⟩ := h
        clear ha hb ho
        go_enter Try.func13, Try.ntmps13
        go_wp2
        go_ret2
        exact ⟨rfl, by repeat (first | exact Drawn0.refl _ | apply Drawn0.step)⟩
      · have d7 : decide (wrap64 (Int.tdiv 9223372036854775807 a1) < a0) = false := decide_eq_false ho
        have d8 : decide (wrap64 (9223372036854775807 / a1) < a0) = false := by rw [← Int.tdiv_eq_ediv_of_nonneg (by omega)]; exact d7
        rw [d7] at h
        simp only [Bool.false_eq_true, if_false, Option.some.injEq, Prod.mk.injEq] at h
        obtain ⟨rfl, rfl⟩ := h
        clear ha hb ho
        go_enter Try.func13, Try.ntmps13
        go_wp2
        go_ret2
        exact ⟨rfl, by repeat (first | exact Drawn0.refl _ | apply Drawn0.step)⟩

end Go.Proofs.Ytdgnhmghniloiaa.Hp
