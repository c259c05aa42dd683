/- Functions of the program as Lean functions, each with its contract: the call comes to that answer. Told by wip/tools/handprint.py of this session. -/
import Derived.Test.YtjanmaddjjhjbaaHpx0
import Derived.Test.YtjanmaddjjhjbaaHpx1
import Derived.Test.YtjanmaddjjhjbaaHpx2
import Derived.Test.YtjanmaddjjhjbaaHpx6
import Derived.Test.YtjanmaddjjhjbaaHpx9
namespace Go.Proofs.Ytjanmaddjjhjbaa.Hp
open Go.RowKit Go.Proofs.YtjanmaddjjhjbaaW.PrintWords Go.Proofs.YtjanmaddjjhjbaaW.PrintLast Go.Proofs.YtjanmaddjjhjbaaW.PrintMore
attribute [local go_sem] max2_int min2_int max_two min_two max_three min_three max_four min_four   -- for this text's walks alone
set_option linter.unusedVariables false
set_option linter.unusedSimpArgs false

attribute [local go_sem high] eqA23
/-! ### sawtoothlaw16_FlightTurns: function 8 -/
def sawtoothlaw16_FlightTurns.f (k : Nat) (a0_0 : Int) (a0_1 : Int) (a0_2 : Int) (a1 : Int) (a2 : Int) : Option (Bool) := (sawtoothlaw16_awake.f k).bind fun t427 => ((flight_Ack.f k a0_0 a0_1 a0_2 (wrap64 (1 + (wrap64 (a1))))).bind fun bt428 => ((flight_Lose.f k bt428.1 bt428.2.1 bt428.2.2.1 (wrap64 (1 + (wrap64 (a2))))).bind fun bt433 => ((flight_Lose.f k a0_0 a0_1 a0_2 (wrap64 (1 + (wrap64 (a2))))).bind fun bt438 => ((flight_Ack.f k bt438.1 bt438.2.1 bt438.2.2.1 (wrap64 (1 + (wrap64 (a1))))).bind fun bt443 => (if bt428.2.2.2 = 0 then (if bt438.2.2.2 = 0 then (if t427 = true then (if bt433.2.2.2 = 0 then (if bt443.2.2.2 = 0 then (if (bt433.1 == bt443.1 && (bt433.2.1 == bt443.2.1 && (bt433.2.2.1 == bt443.2.2.1))) = true then ((flight_Check.f a0_0 a0_1 a0_2).bind fun t448 => (if t448 = true then (if a0_2 ≥ (wrap64 ((wrap64 (1 + (wrap64 (a1)))) + (wrap64 (1 + (wrap64 (a2)))))) then (some true) else (some false)) else (some true))) else (some false)) else (some false)) else (if bt443.2.2.2 = 0 then (some false) else ((flight_Check.f a0_0 a0_1 a0_2).bind fun t449 => (if t449 = true then (if a0_2 ≥ (wrap64 ((wrap64 (1 + (wrap64 (a1)))) + (wrap64 (1 + (wrap64 (a2)))))) then (some false) else (some true)) else (some true))))) else (some false)) else (if t427 = true then (if bt433.2.2.2 = 0 then (some false) else ((flight_Check.f a0_0 a0_1 a0_2).bind fun t450 => (if t450 = true then (if a0_2 ≥ (wrap64 ((wrap64 (1 + (wrap64 (a1)))) + (wrap64 (1 + (wrap64 (a2)))))) then (some false) else (some true)) else (some true)))) else (some false))) else (if bt438.2.2.2 = 0 then (if t427 = true then (if bt443.2.2.2 = 0 then (some false) else ((flight_Check.f a0_0 a0_1 a0_2).bind fun t451 => (if t451 = true then (if a0_2 ≥ (wrap64 ((wrap64 (1 + (wrap64 (a1)))) + (wrap64 (1 + (wrap64 (a2)))))) then (some false) else (some true)) else (some true)))) else (some false)) else (if t427 = true then ((flight_Check.f a0_0 a0_1 a0_2).bind fun t452 => (if t452 = true then (if a0_2 ≥ (wrap64 ((wrap64 (1 + (wrap64 (a1)))) + (wrap64 (1 + (wrap64 (a2)))))) then (some false) else (some true)) else (some true))) else (some false))))))))
theorem sawtoothlaw16_FlightTurns.mono : ∀ a0 a1 a2 a3 a4 k, LeO (sawtoothlaw16_FlightTurns.f k a0 a1 a2 a3 a4) (sawtoothlaw16_FlightTurns.f (k + 1) a0 a1 a2 a3 a4) := by
  intro a0 a1 a2 a3 a4 k
  unfold sawtoothlaw16_FlightTurns.f
  repeat' first
      | (with_reducible exact flight_Ack.mono _ _ _ _ _)
      | (with_reducible exact flight_Lose.mono _ _ _ _ _)
      | (with_reducible exact sawtoothlaw16_awake.mono _)
      | (with_reducible exact LeO.refl _)
      | (with_reducible exact LeO.none _)
      | (with_reducible refine LeO.ite ?_ ?_)
      | (with_reducible refine LeO.bind ?_ (fun _ => ?_))
      | exact flight_Ack.mono _ _ _ _ _
      | exact flight_Lose.mono _ _ _ _ _
      | exact sawtoothlaw16_awake.mono _
      | exact LeO.none _
      | refine LeO.ite ?_ ?_
      | refine LeO.bind ?_ (fun _ => ?_)
end Go.Proofs.Ytjanmaddjjhjbaa.Hp
