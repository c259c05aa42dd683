/- Functions of the program as Lean functions, each with its contract: the call comes to that answer. Told by wip/tools/handprint.py of this session. -/
import Derived.Test.YtjanmaddjjhjbaaHpx20p1
import Derived.Test.YtjanmaddjjhjbaaHpx20p2
import Derived.Test.YtjanmaddjjhjbaaHpx20p3
namespace Go.Proofs.Ytjanmaddjjhjbaa.Hp
open Go.RowKit Go.Proofs.YtjanmaddjjhjbaaW.PrintWords Go.Proofs.YtjanmaddjjhjbaaW.PrintLast Go.Proofs.YtjanmaddjjhjbaaW.PrintMore
attribute [local go_sem] max2_int min2_int max_two min_two max_three min_three max_four min_four   -- for this text's walks alone
set_option linter.unusedVariables false
set_option linter.unusedSimpArgs false

attribute [local go_sem high] eqA23
set_option maxHeartbeats 8000000 in
set_option maxRecDepth 100000 in
theorem sawtoothlaw16_FlightTurns.calls (k : Nat) (a0_0 : Int) (a0_1 : Int) (a0_2 : Int) (a1 : Int) (a2 : Int) (r : Bool) (w : World) (h : sawtoothlaw16_FlightTurns.f k a0_0 a0_1 a0_2 a1 a2 = some r) (hr_ : r = true) :
    Calls Try.prog 8 #[.agg #[.int .i64 a0_0, .int .i64 a0_1, .int .i64 a0_2], .int .u32 a1, .int .u32 a2] w fun e w' => e = .returned (.bool r) ∧ Below w.heap.size w w' := by
  by_cases hx_c9 : ∀ t428 t429 t430 t431, flight_Ack.f k a0_0 a0_1 a0_2 (wrap64 (1 + (wrap64 (a1)))) = some (t428, t429, t430, t431) → t431 = 0
  · by_cases hx_c10 : ∀ t438 t439 t440 t441, flight_Lose.f k a0_0 a0_1 a0_2 (wrap64 (1 + (wrap64 (a2)))) = some (t438, t439, t440, t441) → t441 = 0
    · exact sawtoothlaw16_FlightTurns.callsp1 k a0_0 a0_1 a0_2 a1 a2 r w h hr_ hx_c9 hx_c10
    · have hx_c10_ : ∀ t438 t439 t440 t441, flight_Lose.f k a0_0 a0_1 a0_2 (wrap64 (1 + (wrap64 (a2)))) = some (t438, t439, t440, t441) → ¬ (t441 = 0) := by
        intro t438 t439 t440 t441 ha_ hc_
        refine hx_c10 ?_
        intro t438_ t439_ t440_ t441_ hb_
        have he_ := Option.some.inj (ha_.symm.trans hb_)
        simp only [Prod.mk.injEq] at he_
        obtain ⟨rfl, rfl, rfl, rfl⟩ := he_
        exact hc_
      exact sawtoothlaw16_FlightTurns.callsp2 k a0_0 a0_1 a0_2 a1 a2 r w h hr_ hx_c9 hx_c10_
  · have hx_c9_ : ∀ t428 t429 t430 t431, flight_Ack.f k a0_0 a0_1 a0_2 (wrap64 (1 + (wrap64 (a1)))) = some (t428, t429, t430, t431) → ¬ (t431 = 0) := by
      intro t428 t429 t430 t431 ha_ hc_
      refine hx_c9 ?_
      intro t428_ t429_ t430_ t431_ hb_
      have he_ := Option.some.inj (ha_.symm.trans hb_)
      simp only [Prod.mk.injEq] at he_
      obtain ⟨rfl, rfl, rfl, rfl⟩ := he_
      exact hc_
    exact sawtoothlaw16_FlightTurns.callsp3 k a0_0 a0_1 a0_2 a1 a2 r w h hr_ hx_c9_
end Go.Proofs.Ytjanmaddjjhjbaa.Hp
