/- Functions of the program as Lean functions, each with its contract: the call comes to that answer. Told by wip/tools/handprint.py of this session. -/
import Derived.Test.YtdgnhmghniloiaaHpx0
import Derived.Test.YtdgnhmghniloiaaHpx1
import Derived.Test.YtdgnhmghniloiaaHpx2
import Derived.Test.YtdgnhmghniloiaaHpx3
namespace Go.Proofs.Ytdgnhmghniloiaa.Hp
open Go.RowKit Go.Proofs.YtdgnhmghniloiaaW.PrintWords Go.Proofs.YtdgnhmghniloiaaW.PrintLast Go.Proofs.YtdgnhmghniloiaaW.PrintMore
attribute [local go_sem] max2_int min2_int max_two min_two max_three min_three max_four min_four   -- for this text's walks alone
set_option linter.unusedVariables false
set_option linter.unusedSimpArgs false

/-! ### safe_Clamp: function 22 -/
def safe_Clamp.f (a0 : Int) (a1 : Int) (a2 : Int) : Option (Int) := if a0 < a1 then (some a1) else (if a2 < a0 then (some a2) else (some a0))
set_option maxHeartbeats 8000000 in
set_option maxRecDepth 100000 in
theorem safe_Clamp.calls (a0 : Int) (a1 : Int) (a2 : Int) (r : Int) (w : World) (h : safe_Clamp.f a0 a1 a2 = some r) :
    Calls Try.prog 22 #[.int .i64 a0, .int .i64 a1, .int .i64 a2] w fun e w' => e = .returned (.int .i64 r) ∧ Below w.heap.size w w' := by
  have HB := Aside0.mk (Below.refl w.heap.size w)
  have H : (if a0 < a1 then (some a1) else (if a2 < a0 then (some a2) else (some a0))) = some r := h
  clear h
  by_cases c4 : a0 < a1
  · rw [if_pos c4] at H
    have c4b0 : decide (a0 < a1) = true := decide_eq_true c4
    clear c4
    obtain rfl := Option.some.inj H
    go_enter Try.func22, Try.ntmps22
    go_wp2
    go_ret
    exact ⟨by first | rfl | (simp [errW_none, errW_some] <;> rfl) | (simp [*, errW_none, errW_some] <;> rfl), by repeat (first | (with_reducible first | exact HB.out | apply below_alloc | apply pw_below_drewN | apply below_drew1) | exact HB.out)⟩
  · rw [if_neg c4] at H
    have c4b0 : decide (a0 < a1) = false := decide_eq_false c4
    clear c4
    by_cases c5 : a2 < a0
    · rw [if_pos c5] at H
      have c5i := eq_true c5
      have c5b0 : decide (a2 < a0) = true := decide_eq_true c5
      clear c5
      obtain rfl := Option.some.inj H
      go_enter Try.func22, Try.ntmps22
      go_wp2
      go_ret
      exact ⟨by first | rfl | (simp [errW_none, errW_some] <;> rfl) | (simp [*, errW_none, errW_some] <;> rfl), by repeat (first | (with_reducible first | exact HB.out | apply below_alloc | apply pw_below_drewN | apply below_drew1) | exact HB.out)⟩
    · rw [if_neg c5] at H
      have c5i := eq_false c5
      have c5b0 : decide (a2 < a0) = false := decide_eq_false c5
      clear c5
      obtain rfl := Option.some.inj H
      go_enter Try.func22, Try.ntmps22
      go_wp2
      go_ret
      exact ⟨by first | rfl | (simp [errW_none, errW_some] <;> rfl) | (simp [*, errW_none, errW_some] <;> rfl), by repeat (first | (with_reducible first | exact HB.out | apply below_alloc | apply pw_below_drewN | apply below_drew1) | exact HB.out)⟩

/-! ### sawtoothlaw01_awake: function 9 -/
def sawtoothlaw01_awake.f : Option Bool := some true
set_option maxHeartbeats 1600000 in
set_option maxRecDepth 100000 in
theorem sawtoothlaw01_awake.calls (r : Bool) (w : World) (h : sawtoothlaw01_awake.f = some r) :
    Calls Try.prog 9 #[] w fun e w' => e = .returned (.bool r) ∧ Below w.heap.size w w' := by
  obtain rfl := Option.some.inj h
  clear h
  have HB := Aside0.mk (Below.refl w.heap.size w)
  go_enter Try.func9, Try.ntmps9
  go_wp2_with fail
  refine (safe_Plus.calls (9223372036854775807) (1) (0) (10) _ (by decide +kernel)).mono ?_
  rintro ev w0 ⟨rfl, hb⟩
  replace HB := Aside0.mk (HB.out.trans (hb.below.mono HB.out.size))
  clear hb
  go_wp2_with fail
  refine (safe_Times.calls (-2147483648) (4294967296) (-9223372036854775808) (0) _ (by decide +kernel)).mono ?_
  rintro ev w1 ⟨rfl, hb⟩
  replace HB := Aside0.mk (HB.out.trans (hb.below.mono HB.out.size))
  clear hb
  go_wp2_with fail
  refine (safe_Times.calls (-1) (-9223372036854775808) (0) (10) _ (by decide +kernel)).mono ?_
  rintro ev w2 ⟨rfl, hb⟩
  replace HB := Aside0.mk (HB.out.trans (hb.below.mono HB.out.size))
  clear hb
  go_wp2_with fail
  refine (safe_Times.calls (-9223372036854775808) (-1) (0) (10) _ (by decide +kernel)).mono ?_
  rintro ev w3 ⟨rfl, hb⟩
  replace HB := Aside0.mk (HB.out.trans (hb.below.mono HB.out.size))
  clear hb
  go_wp2_with fail
  refine (safe_Add.calls (9223372036854775807) (1) (9223372036854775807) _ (by decide +kernel)).mono ?_
  rintro ev w4 ⟨rfl, hb⟩
  replace HB := Aside0.mk (HB.out.trans (hb.mono HB.out.size))
  clear hb
  go_wp2_with fail
  refine (safe_Add.calls (-9223372036854775808) (-1) (-9223372036854775808) _ (by decide +kernel)).mono ?_
  rintro ev w5 ⟨rfl, hb⟩
  replace HB := Aside0.mk (HB.out.trans (hb.mono HB.out.size))
  clear hb
  go_wp2_with fail
  refine (safe_Sub.calls (0) (-9223372036854775808) (9223372036854775807) _ (by decide +kernel)).mono ?_
  rintro ev w6 ⟨rfl, hb⟩
  replace HB := Aside0.mk (HB.out.trans (hb.mono HB.out.size))
  clear hb
  go_wp2_with fail
  refine (safe_Sub.calls (-1) (-9223372036854775808) (9223372036854775807) _ (by decide +kernel)).mono ?_
  rintro ev w7 ⟨rfl, hb⟩
  replace HB := Aside0.mk (HB.out.trans (hb.mono HB.out.size))
  clear hb
  go_wp2_with fail
  refine (safe_Sub.calls (3) (5) (-2) _ (by decide +kernel)).mono ?_
  rintro ev w8 ⟨rfl, hb⟩
  replace HB := Aside0.mk (HB.out.trans (hb.mono HB.out.size))
  clear hb
  go_wp2_with fail
  refine (safe_Mul.calls (-4611686018427387904) (4) (-9223372036854775808) _ (by decide +kernel)).mono ?_
  rintro ev w9 ⟨rfl, hb⟩
  replace HB := Aside0.mk (HB.out.trans (hb.mono HB.out.size))
  clear hb
  go_wp2_with fail
  refine (safe_Mul.calls (-3) (-5) (15) _ (by decide +kernel)).mono ?_
  rintro ev w10 ⟨rfl, hb⟩
  replace HB := Aside0.mk (HB.out.trans (hb.mono HB.out.size))
  clear hb
  go_wp2_with fail
  refine (safe_Abs.calls (-9223372036854775808) (9223372036854775807) _ (by decide +kernel)).mono ?_
  rintro ev w11 ⟨rfl, hb⟩
  replace HB := Aside0.mk (HB.out.trans (hb.mono HB.out.size))
  clear hb
  go_wp2_with fail
  refine (safe_Abs.calls (-4) (4) _ (by decide +kernel)).mono ?_
  rintro ev w12 ⟨rfl, hb⟩
  replace HB := Aside0.mk (HB.out.trans (hb.mono HB.out.size))
  clear hb
  go_wp2_with fail
  refine (safe_Clamp.calls (7) (1) (5) (5) _ (by decide +kernel)).mono ?_
  rintro ev w13 ⟨rfl, hb⟩
  replace HB := Aside0.mk (HB.out.trans (hb.mono HB.out.size))
  clear hb
  go_wp2_with fail
  refine (safe_Clamp.calls (-7) (1) (5) (1) _ (by decide +kernel)).mono ?_
  rintro ev w14 ⟨rfl, hb⟩
  replace HB := Aside0.mk (HB.out.trans (hb.mono HB.out.size))
  clear hb
  go_wp2_with fail
  refine (safe_Clamp.calls (3) (1) (5) (3) _ (by decide +kernel)).mono ?_
  rintro ev w15 ⟨rfl, hb⟩
  replace HB := Aside0.mk (HB.out.trans (hb.mono HB.out.size))
  clear hb
  go_wp2_with fail
  refine (safe_Clamp.calls (3) (5) (1) (5) _ (by decide +kernel)).mono ?_
  rintro ev w16 ⟨rfl, hb⟩
  replace HB := Aside0.mk (HB.out.trans (hb.mono HB.out.size))
  clear hb
  go_wp2
  go_ret
  exact ⟨by simp, HB.out⟩

end Go.Proofs.Ytdgnhmghniloiaa.Hp
