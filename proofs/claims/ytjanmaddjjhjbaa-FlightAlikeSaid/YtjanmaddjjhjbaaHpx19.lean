/- Functions of the program as Lean functions, each with its contract: the call comes to that answer. Told by wip/tools/handprint.py of this session. -/
import Derived.Test.YtjanmaddjjhjbaaHpx19p1
import Derived.Test.YtjanmaddjjhjbaaHpx19p2
import Derived.Test.YtjanmaddjjhjbaaHpx19p3
namespace Go.Proofs.Ytjanmaddjjhjbaa.Hp
open Go.RowKit Go.Proofs.YtjanmaddjjhjbaaW.PrintWords Go.Proofs.YtjanmaddjjhjbaaW.PrintLast Go.Proofs.YtjanmaddjjhjbaaW.PrintMore
attribute [local go_sem] max2_int min2_int max_two min_two max_three min_three max_four min_four   -- for this text's walks alone
set_option linter.unusedVariables false
set_option linter.unusedSimpArgs false

attribute [local go_sem high] eqA23
set_option maxHeartbeats 8000000 in
set_option maxRecDepth 100000 in
theorem sawtoothlaw16_FlightAlike.calls (k : Nat) (a0_0 : Int) (a0_1 : Int) (a0_2 : Int) (A1 : Option Addr) (c1 : Nat) (l1 : List (S38)) (a2 : Int) (a3 : Int) (r : Bool) (w : World) (hr1 : Kd.C k38 w A1 l1.length l1) (hc1 : l1.length ≤ c1) (h : sawtoothlaw16_FlightAlike.f k a0_0 a0_1 a0_2 l1 a2 a3 = some r) (hr_ : r = true) :
    Calls Try.prog 7 #[.agg #[.int .i64 a0_0, .int .i64 a0_1, .int .i64 a0_2], .slice A1 l1.length c1, .int .u8 a2, .int .i64 a3] w fun e w' => e = .returned (.bool r) ∧ Below w.heap.size w w' := by
  by_cases hx_c20 : a3 ≥ 0
  · by_cases hx_c21 : a3 ≤ 2
    · exact sawtoothlaw16_FlightAlike.callsp1 k a0_0 a0_1 a0_2 A1 c1 l1 a2 a3 r w hr1 hc1 h hr_ hx_c20 hx_c21
    · exact sawtoothlaw16_FlightAlike.callsp2 k a0_0 a0_1 a0_2 A1 c1 l1 a2 a3 r w hr1 hc1 h hr_ hx_c20 hx_c21
  · exact sawtoothlaw16_FlightAlike.callsp3 k a0_0 a0_1 a0_2 A1 c1 l1 a2 a3 r w hr1 hc1 h hr_ hx_c20
end Go.Proofs.Ytjanmaddjjhjbaa.Hp
