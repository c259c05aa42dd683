/- Functions of the program as Lean functions, each with its contract: the call comes to that answer. Told by wip/tools/handprint.py of this session. -/
import Derived.Test.YtdgnhmghniloiaaHpx0
import Derived.Test.YtdgnhmghniloiaaHpx1
import Derived.Test.YtdgnhmghniloiaaHpx2
import Derived.Test.YtdgnhmghniloiaaHpx3
import Derived.Test.YtdgnhmghniloiaaHpx4
namespace Go.Proofs.Ytdgnhmghniloiaa.Hp
open Go.RowKit Go.Proofs.YtdgnhmghniloiaaW.PrintWords Go.Proofs.YtdgnhmghniloiaaW.PrintLast Go.Proofs.YtdgnhmghniloiaaW.PrintMore
attribute [local go_sem] max2_int min2_int max_two min_two max_three min_three max_four min_four   -- for this text's walks alone
set_option linter.unusedVariables false
set_option linter.unusedSimpArgs false

/-! ### sawtoothlaw01_SafeBack: function 4 -/
def sawtoothlaw01_SafeBack.f (a0 : Int) (a1 : Int) : Option (Bool) := (sawtoothlaw01_awake.f).bind fun t128 => ((safe_Plus.f a0 a1).bind fun bt129 => ((safe_Times.f a0 a1).bind fun bt131 => (if bt129.2 = 10 then (if bt129.1 = 0 then (if bt131.2 = 10 then (if bt131.1 = 0 then (if t128 = true then (some true) else (some false)) else (if bt131.2 = 0 then ((safe_Mul.f a0 a1).bind fun t133 => (if t133 = bt131.1 then (if a1 = 0 then (if t128 = true then (some true) else (some false)) else (if (wrap64 (Int.tdiv bt131.1 a1)) = a0 then (if t128 = true then (some ((Int.tmod bt131.1 a1) == 0)) else (some false)) else (if t128 = true then (some false) else (some false)))) else (if t128 = true then (some false) else (some false)))) else (if t128 = true then (some false) else (some false)))) else (if bt131.2 = 0 then ((safe_Mul.f a0 a1).bind fun t134 => (if t134 = bt131.1 then (if a1 = 0 then (if t128 = true then (some true) else (some false)) else (if (wrap64 (Int.tdiv bt131.1 a1)) = a0 then (if t128 = true then (some ((Int.tmod bt131.1 a1) == 0)) else (some false)) else (if t128 = true then (some false) else (some false)))) else (if t128 = true then (some false) else (some false)))) else (if t128 = true then (some false) else (some false)))) else (if bt129.2 = 0 then ((safe_Sub.f bt129.1 a1).bind fun t135 => (if t135 = a0 then ((safe_Add.f a0 a1).bind fun t136 => (if bt131.2 = 10 then (if bt131.1 = 0 then (if t128 = true then (if t136 = bt129.1 then (some true) else (some false)) else (some false)) else (if bt131.2 = 0 then ((safe_Mul.f a0 a1).bind fun t137 => (if t137 = bt131.1 then (if a1 = 0 then (if t128 = true then (if t136 = bt129.1 then (some true) else (some false)) else (some false)) else (if (wrap64 (Int.tdiv bt131.1 a1)) = a0 then (if t128 = true then (if t136 = bt129.1 then (some ((Int.tmod bt131.1 a1) == 0)) else (some false)) else (some false)) else (if t128 = true then (if t136 = bt129.1 then (some false) else (some false)) else (some false)))) else (if t128 = true then (if t136 = bt129.1 then (some false) else (some false)) else (some false)))) else (if t128 = true then (if t136 = bt129.1 then (some false) else (some false)) else (some false)))) else (if bt131.2 = 0 then ((safe_Mul.f a0 a1).bind fun t138 => (if t138 = bt131.1 then (if a1 = 0 then (if t128 = true then (if t136 = bt129.1 then (some true) else (some false)) else (some false)) else (if (wrap64 (Int.tdiv bt131.1 a1)) = a0 then (if t128 = true then (if t136 = bt129.1 then (some ((Int.tmod bt131.1 a1) == 0)) else (some false)) else (some false)) else (if t128 = true then (if t136 = bt129.1 then (some false) else (some false)) else (some false)))) else (if t128 = true then (if t136 = bt129.1 then (some false) else (some false)) else (some false)))) else (if t128 = true then (if t136 = bt129.1 then (some false) else (some false)) else (some false))))) else (if bt131.2 = 10 then (if bt131.1 = 0 then (if t128 = true then (some false) else (some false)) else (if bt131.2 = 0 then ((safe_Mul.f a0 a1).bind fun t139 => (if t139 = bt131.1 then (if a1 = 0 then (if t128 = true then (some false) else (some false)) else (if (wrap64 (Int.tdiv bt131.1 a1)) = a0 then (if t128 = true then (some false) else (some false)) else (if t128 = true then (some false) else (some false)))) else (if t128 = true then (some false) else (some false)))) else (if t128 = true then (some false) else (some false)))) else (if bt131.2 = 0 then ((safe_Mul.f a0 a1).bind fun t140 => (if t140 = bt131.1 then (if a1 = 0 then (if t128 = true then (some false) else (some false)) else (if (wrap64 (Int.tdiv bt131.1 a1)) = a0 then (if t128 = true then (some false) else (some false)) else (if t128 = true then (some false) else (some false)))) else (if t128 = true then (some false) else (some false)))) else (if t128 = true then (some false) else (some false)))))) else (if bt131.2 = 10 then (if bt131.1 = 0 then (if t128 = true then (some false) else (some false)) else (if bt131.2 = 0 then ((safe_Mul.f a0 a1).bind fun t141 => (if t141 = bt131.1 then (if a1 = 0 then (if t128 = true then (some false) else (some false)) else (if (wrap64 (Int.tdiv bt131.1 a1)) = a0 then (if t128 = true then (some false) else (some false)) else (if t128 = true then (some false) else (some false)))) else (if t128 = true then (some false) else (some false)))) else (if t128 = true then (some false) else (some false)))) else (if bt131.2 = 0 then ((safe_Mul.f a0 a1).bind fun t142 => (if t142 = bt131.1 then (if a1 = 0 then (if t128 = true then (some false) else (some false)) else (if (wrap64 (Int.tdiv bt131.1 a1)) = a0 then (if t128 = true then (some false) else (some false)) else (if t128 = true then (some false) else (some false)))) else (if t128 = true then (some false) else (some false)))) else (if t128 = true then (some false) else (some false)))))) else (if bt129.2 = 0 then ((safe_Sub.f bt129.1 a1).bind fun t143 => (if t143 = a0 then ((safe_Add.f a0 a1).bind fun t144 => (if bt131.2 = 10 then (if bt131.1 = 0 then (if t128 = true then (if t144 = bt129.1 then (some true) else (some false)) else (some false)) else (if bt131.2 = 0 then ((safe_Mul.f a0 a1).bind fun t145 => (if t145 = bt131.1 then (if a1 = 0 then (if t128 = true then (if t144 = bt129.1 then (some true) else (some false)) else (some false)) else (if (wrap64 (Int.tdiv bt131.1 a1)) = a0 then (if t128 = true then (if t144 = bt129.1 then (some ((Int.tmod bt131.1 a1) == 0)) else (some false)) else (some false)) else (if t128 = true then (if t144 = bt129.1 then (some false) else (some false)) else (some false)))) else (if t128 = true then (if t144 = bt129.1 then (some false) else (some false)) else (some false)))) else (if t128 = true then (if t144 = bt129.1 then (some false) else (some false)) else (some false)))) else (if bt131.2 = 0 then ((safe_Mul.f a0 a1).bind fun t146 => (if t146 = bt131.1 then (if a1 = 0 then (if t128 = true then (if t144 = bt129.1 then (some true) else (some false)) else (some false)) else (if (wrap64 (Int.tdiv bt131.1 a1)) = a0 then (if t128 = true then (if t144 = bt129.1 then (some ((Int.tmod bt131.1 a1) == 0)) else (some false)) else (some false)) else (if t128 = true then (if t144 = bt129.1 then (some false) else (some false)) else (some false)))) else (if t128 = true then (if t144 = bt129.1 then (some false) else (some false)) else (some false)))) else (if t128 = true then (if t144 = bt129.1 then (some false) else (some false)) else (some false))))) else (if bt131.2 = 10 then (if bt131.1 = 0 then (if t128 = true then (some false) else (some false)) else (if bt131.2 = 0 then ((safe_Mul.f a0 a1).bind fun t147 => (if t147 = bt131.1 then (if a1 = 0 then (if t128 = true then (some false) else (some false)) else (if (wrap64 (Int.tdiv bt131.1 a1)) = a0 then (if t128 = true then (some false) else (some false)) else (if t128 = true then (some false) else (some false)))) else (if t128 = true then (some false) else (some false)))) else (if t128 = true then (some false) else (some false)))) else (if bt131.2 = 0 then ((safe_Mul.f a0 a1).bind fun t148 => (if t148 = bt131.1 then (if a1 = 0 then (if t128 = true then (some false) else (some false)) else (if (wrap64 (Int.tdiv bt131.1 a1)) = a0 then (if t128 = true then (some false) else (some false)) else (if t128 = true then (some false) else (some false)))) else (if t128 = true then (some false) else (some false)))) else (if t128 = true then (some false) else (some false)))))) else (if bt131.2 = 10 then (if bt131.1 = 0 then (if t128 = true then (some false) else (some false)) else (if bt131.2 = 0 then ((safe_Mul.f a0 a1).bind fun t149 => (if t149 = bt131.1 then (if a1 = 0 then (if t128 = true then (some false) else (some false)) else (if (wrap64 (Int.tdiv bt131.1 a1)) = a0 then (if t128 = true then (some false) else (some false)) else (if t128 = true then (some false) else (some false)))) else (if t128 = true then (some false) else (some false)))) else (if t128 = true then (some false) else (some false)))) else (if bt131.2 = 0 then ((safe_Mul.f a0 a1).bind fun t150 => (if t150 = bt131.1 then (if a1 = 0 then (if t128 = true then (some false) else (some false)) else (if (wrap64 (Int.tdiv bt131.1 a1)) = a0 then (if t128 = true then (some false) else (some false)) else (if t128 = true then (some false) else (some false)))) else (if t128 = true then (some false) else (some false)))) else (if t128 = true then (some false) else (some false))))))))
set_option maxHeartbeats 8000000 in
set_option maxRecDepth 100000 in
theorem sawtoothlaw01_SafeBack.calls (a0 : Int) (a1 : Int) (r : Bool) (w : World) (h : sawtoothlaw01_SafeBack.f a0 a1 = some r) (hr_ : r = true) :
    Calls Try.prog 4 #[.int .i64 a0, .int .i64 a1] w fun e w' => e = .returned (.bool r) ∧ Below w.heap.size w w' := by
  have HB := Aside0.mk (Below.refl w.heap.size w)
  have H : ((sawtoothlaw01_awake.f).bind fun t128 => ((safe_Plus.f a0 a1).bind fun bt129 => ((safe_Times.f a0 a1).bind fun bt131 => (if bt129.2 = 10 then (if bt129.1 = 0 then (if bt131.2 = 10 then (if bt131.1 = 0 then (if t128 = true then (some true) else (some false)) else (if bt131.2 = 0 then ((safe_Mul.f a0 a1).bind fun t133 => (if t133 = bt131.1 then (if a1 = 0 then (if t128 = true then (some true) else (some false)) else (if (wrap64 (Int.tdiv bt131.1 a1)) = a0 then (if t128 = true then (some ((Int.tmod bt131.1 a1) == 0)) else (some false)) else (if t128 = true then (some false) else (some false)))) else (if t128 = true then (some false) else (some false)))) else (if t128 = true then (some false) else (some false)))) else (if bt131.2 = 0 then ((safe_Mul.f a0 a1).bind fun t134 => (if t134 = bt131.1 then (if a1 = 0 then (if t128 = true then (some true) else (some false)) else (if (wrap64 (Int.tdiv bt131.1 a1)) = a0 then (if t128 = true then (some ((Int.tmod bt131.1 a1) == 0)) else (some false)) else (if t128 = true then (some false) else (some false)))) else (if t128 = true then (some false) else (some false)))) else (if t128 = true then (some false) else (some false)))) else (if bt129.2 = 0 then ((safe_Sub.f bt129.1 a1).bind fun t135 => (if t135 = a0 then ((safe_Add.f a0 a1).bind fun t136 => (if bt131.2 = 10 then (if bt131.1 = 0 then (if t128 = true then (if t136 = bt129.1 then (some true) else (some false)) else (some false)) else (if bt131.2 = 0 then ((safe_Mul.f a0 a1).bind fun t137 => (if t137 = bt131.1 then (if a1 = 0 then (if t128 = true then (if t136 = bt129.1 then (some true) else (some false)) else (some false)) else (if (wrap64 (Int.tdiv bt131.1 a1)) = a0 then (if t128 = true then (if t136 = bt129.1 then (some ((Int.tmod bt131.1 a1) == 0)) else (some false)) else (some false)) else (if t128 = true then (if t136 = bt129.1 then (some false) else (some false)) else (some false)))) else (if t128 = true then (if t136 = bt129.1 then (some false) else (some false)) else (some false)))) else (if t128 = true then (if t136 = bt129.1 then (some false) else (some false)) else (some false)))) else (if bt131.2 = 0 then ((safe_Mul.f a0 a1).bind fun t138 => (if t138 = bt131.1 then (if a1 = 0 then (if t128 = true then (if t136 = bt129.1 then (some true) else (some false)) else (some false)) else (if (wrap64 (Int.tdiv bt131.1 a1)) = a0 then (if t128 = true then (if t136 = bt129.1 then (some ((Int.tmod bt131.1 a1) == 0)) else (some false)) else (some false)) else (if t128 = true then (if t136 = bt129.1 then (some false) else (some false)) else (some false)))) else (if t128 = true then (if t136 = bt129.1 then (some false) else (some false)) else (some false)))) else (if t128 = true then (if t136 = bt129.1 then (some false) else (some false)) else (some false))))) else (if bt131.2 = 10 then (if bt131.1 = 0 then (if t128 = true then (some false) else (some false)) else (if bt131.2 = 0 then ((safe_Mul.f a0 a1).bind fun t139 => (if t139 = bt131.1 then (if a1 = 0 then (if t128 = true then (some false) else (some false)) else (if (wrap64 (Int.tdiv bt131.1 a1)) = a0 then (if t128 = true then (some false) else (some false)) else (if t128 = true then (some false) else (some false)))) else (if t128 = true then (some false) else (some false)))) else (if t128 = true then (some false) else (some false)))) else (if bt131.2 = 0 then ((safe_Mul.f a0 a1).bind fun t140 => (if t140 = bt131.1 then (if a1 = 0 then (if t128 = true then (some false) else (some false)) else (if (wrap64 (Int.tdiv bt131.1 a1)) = a0 then (if t128 = true then (some false) else (some false)) else (if t128 = true then (some false) else (some false)))) else (if t128 = true then (some false) else (some false)))) else (if t128 = true then (some false) else (some false)))))) else (if bt131.2 = 10 then (if bt131.1 = 0 then (if t128 = true then (some false) else (some false)) else (if bt131.2 = 0 then ((safe_Mul.f a0 a1).bind fun t141 => (if t141 = bt131.1 then (if a1 = 0 then (if t128 = true then (some false) else (some false)) else (if (wrap64 (Int.tdiv bt131.1 a1)) = a0 then (if t128 = true then (some false) else (some false)) else (if t128 = true then (some false) else (some false)))) else (if t128 = true then (some false) else (some false)))) else (if t128 = true then (some false) else (some false)))) else (if bt131.2 = 0 then ((safe_Mul.f a0 a1).bind fun t142 => (if t142 = bt131.1 then (if a1 = 0 then (if t128 = true then (some false) else (some false)) else (if (wrap64 (Int.tdiv bt131.1 a1)) = a0 then (if t128 = true then (some false) else (some false)) else (if t128 = true then (some false) else (some false)))) else (if t128 = true then (some false) else (some false)))) else (if t128 = true then (some false) else (some false)))))) else (if bt129.2 = 0 then ((safe_Sub.f bt129.1 a1).bind fun t143 => (if t143 = a0 then ((safe_Add.f a0 a1).bind fun t144 => (if bt131.2 = 10 then (if bt131.1 = 0 then (if t128 = true then (if t144 = bt129.1 then (some true) else (some false)) else (some false)) else (if bt131.2 = 0 then ((safe_Mul.f a0 a1).bind fun t145 => (if t145 = bt131.1 then (if a1 = 0 then (if t128 = true then (if t144 = bt129.1 then (some true) else (some false)) else (some false)) else (if (wrap64 (Int.tdiv bt131.1 a1)) = a0 then (if t128 = true then (if t144 = bt129.1 then (some ((Int.tmod bt131.1 a1) == 0)) else (some false)) else (some false)) else (if t128 = true then (if t144 = bt129.1 then (some false) else (some false)) else (some false)))) else (if t128 = true then (if t144 = bt129.1 then (some false) else (some false)) else (some false)))) else (if t128 = true then (if t144 = bt129.1 then (some false) else (some false)) else (some false)))) else (if bt131.2 = 0 then ((safe_Mul.f a0 a1).bind fun t146 => (if t146 = bt131.1 then (if a1 = 0 then (if t128 = true then (if t144 = bt129.1 then (some true) else (some false)) else (some false)) else (if (wrap64 (Int.tdiv bt131.1 a1)) = a0 then (if t128 = true then (if t144 = bt129.1 then (some ((Int.tmod bt131.1 a1) == 0)) else (some false)) else (some false)) else (if t128 = true then (if t144 = bt129.1 then (some false) else (some false)) else (some false)))) else (if t128 = true then (if t144 = bt129.1 then (some false) else (some false)) else (some false)))) else (if t128 = true then (if t144 = bt129.1 then (some false) else (some false)) else (some false))))) else (if bt131.2 = 10 then (if bt131.1 = 0 then (if t128 = true then (some false) else (some false)) else (if bt131.2 = 0 then ((safe_Mul.f a0 a1).bind fun t147 => (if t147 = bt131.1 then (if a1 = 0 then (if t128 = true then (some false) else (some false)) else (if (wrap64 (Int.tdiv bt131.1 a1)) = a0 then (if t128 = true then (some false) else (some false)) else (if t128 = true then (some false) else (some false)))) else (if t128 = true then (some false) else (some false)))) else (if t128 = true then (some false) else (some false)))) else (if bt131.2 = 0 then ((safe_Mul.f a0 a1).bind fun t148 => (if t148 = bt131.1 then (if a1 = 0 then (if t128 = true then (some false) else (some false)) else (if (wrap64 (Int.tdiv bt131.1 a1)) = a0 then (if t128 = true then (some false) else (some false)) else (if t128 = true then (some false) else (some false)))) else (if t128 = true then (some false) else (some false)))) else (if t128 = true then (some false) else (some false)))))) else (if bt131.2 = 10 then (if bt131.1 = 0 then (if t128 = true then (some false) else (some false)) else (if bt131.2 = 0 then ((safe_Mul.f a0 a1).bind fun t149 => (if t149 = bt131.1 then (if a1 = 0 then (if t128 = true then (some false) else (some false)) else (if (wrap64 (Int.tdiv bt131.1 a1)) = a0 then (if t128 = true then (some false) else (some false)) else (if t128 = true then (some false) else (some false)))) else (if t128 = true then (some false) else (some false)))) else (if t128 = true then (some false) else (some false)))) else (if bt131.2 = 0 then ((safe_Mul.f a0 a1).bind fun t150 => (if t150 = bt131.1 then (if a1 = 0 then (if t128 = true then (some false) else (some false)) else (if (wrap64 (Int.tdiv bt131.1 a1)) = a0 then (if t128 = true then (some false) else (some false)) else (if t128 = true then (some false) else (some false)))) else (if t128 = true then (some false) else (some false)))) else (if t128 = true then (some false) else (some false))))))))) = some r := h
  clear h
  replace H := Option.bind_eq_some_iff.mp H
  obtain ⟨t128, A30, H⟩ := H
  replace H : ((safe_Plus.f a0 a1).bind fun bt129 => ((safe_Times.f a0 a1).bind fun bt131 => (if bt129.2 = 10 then (if bt129.1 = 0 then (if bt131.2 = 10 then (if bt131.1 = 0 then (if t128 = true then (some true) else (some false)) else (if bt131.2 = 0 then ((safe_Mul.f a0 a1).bind fun t133 => (if t133 = bt131.1 then (if a1 = 0 then (if t128 = true then (some true) else (some false)) else (if (wrap64 (Int.tdiv bt131.1 a1)) = a0 then (if t128 = true then (some ((Int.tmod bt131.1 a1) == 0)) else (some false)) else (if t128 = true then (some false) else (some false)))) else (if t128 = true then (some false) else (some false)))) else (if t128 = true then (some false) else (some false)))) else (if bt131.2 = 0 then ((safe_Mul.f a0 a1).bind fun t134 => (if t134 = bt131.1 then (if a1 = 0 then (if t128 = true then (some true) else (some false)) else (if (wrap64 (Int.tdiv bt131.1 a1)) = a0 then (if t128 = true then (some ((Int.tmod bt131.1 a1) == 0)) else (some false)) else (if t128 = true then (some false) else (some false)))) else (if t128 = true then (some false) else (some false)))) else (if t128 = true then (some false) else (some false)))) else (if bt129.2 = 0 then ((safe_Sub.f bt129.1 a1).bind fun t135 => (if t135 = a0 then ((safe_Add.f a0 a1).bind fun t136 => (if bt131.2 = 10 then (if bt131.1 = 0 then (if t128 = true then (if t136 = bt129.1 then (some true) else (some false)) else (some false)) else (if bt131.2 = 0 then ((safe_Mul.f a0 a1).bind fun t137 => (if t137 = bt131.1 then (if a1 = 0 then (if t128 = true then (if t136 = bt129.1 then (some true) else (some false)) else (some false)) else (if (wrap64 (Int.tdiv bt131.1 a1)) = a0 then (if t128 = true then (if t136 = bt129.1 then (some ((Int.tmod bt131.1 a1) == 0)) else (some false)) else (some false)) else (if t128 = true then (if t136 = bt129.1 then (some false) else (some false)) else (some false)))) else (if t128 = true then (if t136 = bt129.1 then (some false) else (some false)) else (some false)))) else (if t128 = true then (if t136 = bt129.1 then (some false) else (some false)) else (some false)))) else (if bt131.2 = 0 then ((safe_Mul.f a0 a1).bind fun t138 => (if t138 = bt131.1 then (if a1 = 0 then (if t128 = true then (if t136 = bt129.1 then (some true) else (some false)) else (some false)) else (if (wrap64 (Int.tdiv bt131.1 a1)) = a0 then (if t128 = true then (if t136 = bt129.1 then (some ((Int.tmod bt131.1 a1) == 0)) else (some false)) else (some false)) else (if t128 = true then (if t136 = bt129.1 then (some false) else (some false)) else (some false)))) else (if t128 = true then (if t136 = bt129.1 then (some false) else (some false)) else (some false)))) else (if t128 = true then (if t136 = bt129.1 then (some false) else (some false)) else (some false))))) else (if bt131.2 = 10 then (if bt131.1 = 0 then (if t128 = true then (some false) else (some false)) else (if bt131.2 = 0 then ((safe_Mul.f a0 a1).bind fun t139 => (if t139 = bt131.1 then (if a1 = 0 then (if t128 = true then (some false) else (some false)) else (if (wrap64 (Int.tdiv bt131.1 a1)) = a0 then (if t128 = true then (some false) else (some false)) else (if t128 = true then (some false) else (some false)))) else (if t128 = true then (some false) else (some false)))) else (if t128 = true then (some false) else (some false)))) else (if bt131.2 = 0 then ((safe_Mul.f a0 a1).bind fun t140 => (if t140 = bt131.1 then (if a1 = 0 then (if t128 = true then (some false) else (some false)) else (if (wrap64 (Int.tdiv bt131.1 a1)) = a0 then (if t128 = true then (some false) else (some false)) else (if t128 = true then (some false) else (some false)))) else (if t128 = true then (some false) else (some false)))) else (if t128 = true then (some false) else (some false)))))) else (if bt131.2 = 10 then (if bt131.1 = 0 then (if t128 = true then (some false) else (some false)) else (if bt131.2 = 0 then ((safe_Mul.f a0 a1).bind fun t141 => (if t141 = bt131.1 then (if a1 = 0 then (if t128 = true then (some false) else (some false)) else (if (wrap64 (Int.tdiv bt131.1 a1)) = a0 then (if t128 = true then (some false) else (some false)) else (if t128 = true then (some false) else (some false)))) else (if t128 = true then (some false) else (some false)))) else (if t128 = true then (some false) else (some false)))) else (if bt131.2 = 0 then ((safe_Mul.f a0 a1).bind fun t142 => (if t142 = bt131.1 then (if a1 = 0 then (if t128 = true then (some false) else (some false)) else (if (wrap64 (Int.tdiv bt131.1 a1)) = a0 then (if t128 = true then (some false) else (some false)) else (if t128 = true then (some false) else (some false)))) else (if t128 = true then (some false) else (some false)))) else (if t128 = true then (some false) else (some false)))))) else (if bt129.2 = 0 then ((safe_Sub.f bt129.1 a1).bind fun t143 => (if t143 = a0 then ((safe_Add.f a0 a1).bind fun t144 => (if bt131.2 = 10 then (if bt131.1 = 0 then (if t128 = true then (if t144 = bt129.1 then (some true) else (some false)) else (some false)) else (if bt131.2 = 0 then ((safe_Mul.f a0 a1).bind fun t145 => (if t145 = bt131.1 then (if a1 = 0 then (if t128 = true then (if t144 = bt129.1 then (some true) else (some false)) else (some false)) else (if (wrap64 (Int.tdiv bt131.1 a1)) = a0 then (if t128 = true then (if t144 = bt129.1 then (some ((Int.tmod bt131.1 a1) == 0)) else (some false)) else (some false)) else (if t128 = true then (if t144 = bt129.1 then (some false) else (some false)) else (some false)))) else (if t128 = true then (if t144 = bt129.1 then (some false) else (some false)) else (some false)))) else (if t128 = true then (if t144 = bt129.1 then (some false) else (some false)) else (some false)))) else (if bt131.2 = 0 then ((safe_Mul.f a0 a1).bind fun t146 => (if t146 = bt131.1 then (if a1 = 0 then (if t128 = true then (if t144 = bt129.1 then (some true) else (some false)) else (some false)) else (if (wrap64 (Int.tdiv bt131.1 a1)) = a0 then (if t128 = true then (if t144 = bt129.1 then (some ((Int.tmod bt131.1 a1) == 0)) else (some false)) else (some false)) else (if t128 = true then (if t144 = bt129.1 then (some false) else (some false)) else (some false)))) else (if t128 = true then (if t144 = bt129.1 then (some false) else (some false)) else (some false)))) else (if t128 = true then (if t144 = bt129.1 then (some false) else (some false)) else (some false))))) else (if bt131.2 = 10 then (if bt131.1 = 0 then (if t128 = true then (some false) else (some false)) else (if bt131.2 = 0 then ((safe_Mul.f a0 a1).bind fun t147 => (if t147 = bt131.1 then (if a1 = 0 then (if t128 = true then (some false) else (some false)) else (if (wrap64 (Int.tdiv bt131.1 a1)) = a0 then (if t128 = true then (some false) else (some false)) else (if t128 = true then (some false) else (some false)))) else (if t128 = true then (some false) else (some false)))) else (if t128 = true then (some false) else (some false)))) else (if bt131.2 = 0 then ((safe_Mul.f a0 a1).bind fun t148 => (if t148 = bt131.1 then (if a1 = 0 then (if t128 = true then (some false) else (some false)) else (if (wrap64 (Int.tdiv bt131.1 a1)) = a0 then (if t128 = true then (some false) else (some false)) else (if t128 = true then (some false) else (some false)))) else (if t128 = true then (some false) else (some false)))) else (if t128 = true then (some false) else (some false)))))) else (if bt131.2 = 10 then (if bt131.1 = 0 then (if t128 = true then (some false) else (some false)) else (if bt131.2 = 0 then ((safe_Mul.f a0 a1).bind fun t149 => (if t149 = bt131.1 then (if a1 = 0 then (if t128 = true then (some false) else (some false)) else (if (wrap64 (Int.tdiv bt131.1 a1)) = a0 then (if t128 = true then (some false) else (some false)) else (if t128 = true then (some false) else (some false)))) else (if t128 = true then (some false) else (some false)))) else (if t128 = true then (some false) else (some false)))) else (if bt131.2 = 0 then ((safe_Mul.f a0 a1).bind fun t150 => (if t150 = bt131.1 then (if a1 = 0 then (if t128 = true then (some false) else (some false)) else (if (wrap64 (Int.tdiv bt131.1 a1)) = a0 then (if t128 = true then (some false) else (some false)) else (if t128 = true then (some false) else (some false)))) else (if t128 = true then (some false) else (some false)))) else (if t128 = true then (some false) else (some false)))))))) = some r := H
  have A3 := Aside0.mk A30
  clear A30
  replace H := Option.bind_eq_some_iff.mp H
  obtain ⟨⟨t129, t130⟩, A40, H⟩ := H
  replace H : ((safe_Times.f a0 a1).bind fun bt131 => (if t130 = 10 then (if t129 = 0 then (if bt131.2 = 10 then (if bt131.1 = 0 then (if t128 = true then (some true) else (some false)) else (if bt131.2 = 0 then ((safe_Mul.f a0 a1).bind fun t133 => (if t133 = bt131.1 then (if a1 = 0 then (if t128 = true then (some true) else (some false)) else (if (wrap64 (Int.tdiv bt131.1 a1)) = a0 then (if t128 = true then (some ((Int.tmod bt131.1 a1) == 0)) else (some false)) else (if t128 = true then (some false) else (some false)))) else (if t128 = true then (some false) else (some false)))) else (if t128 = true then (some false) else (some false)))) else (if bt131.2 = 0 then ((safe_Mul.f a0 a1).bind fun t134 => (if t134 = bt131.1 then (if a1 = 0 then (if t128 = true then (some true) else (some false)) else (if (wrap64 (Int.tdiv bt131.1 a1)) = a0 then (if t128 = true then (some ((Int.tmod bt131.1 a1) == 0)) else (some false)) else (if t128 = true then (some false) else (some false)))) else (if t128 = true then (some false) else (some false)))) else (if t128 = true then (some false) else (some false)))) else (if t130 = 0 then ((safe_Sub.f t129 a1).bind fun t135 => (if t135 = a0 then ((safe_Add.f a0 a1).bind fun t136 => (if bt131.2 = 10 then (if bt131.1 = 0 then (if t128 = true then (if t136 = t129 then (some true) else (some false)) else (some false)) else (if bt131.2 = 0 then ((safe_Mul.f a0 a1).bind fun t137 => (if t137 = bt131.1 then (if a1 = 0 then (if t128 = true then (if t136 = t129 then (some true) else (some false)) else (some false)) else (if (wrap64 (Int.tdiv bt131.1 a1)) = a0 then (if t128 = true then (if t136 = t129 then (some ((Int.tmod bt131.1 a1) == 0)) else (some false)) else (some false)) else (if t128 = true then (if t136 = t129 then (some false) else (some false)) else (some false)))) else (if t128 = true then (if t136 = t129 then (some false) else (some false)) else (some false)))) else (if t128 = true then (if t136 = t129 then (some false) else (some false)) else (some false)))) else (if bt131.2 = 0 then ((safe_Mul.f a0 a1).bind fun t138 => (if t138 = bt131.1 then (if a1 = 0 then (if t128 = true then (if t136 = t129 then (some true) else (some false)) else (some false)) else (if (wrap64 (Int.tdiv bt131.1 a1)) = a0 then (if t128 = true then (if t136 = t129 then (some ((Int.tmod bt131.1 a1) == 0)) else (some false)) else (some false)) else (if t128 = true then (if t136 = t129 then (some false) else (some false)) else (some false)))) else (if t128 = true then (if t136 = t129 then (some false) else (some false)) else (some false)))) else (if t128 = true then (if t136 = t129 then (some false) else (some false)) else (some false))))) else (if bt131.2 = 10 then (if bt131.1 = 0 then (if t128 = true then (some false) else (some false)) else (if bt131.2 = 0 then ((safe_Mul.f a0 a1).bind fun t139 => (if t139 = bt131.1 then (if a1 = 0 then (if t128 = true then (some false) else (some false)) else (if (wrap64 (Int.tdiv bt131.1 a1)) = a0 then (if t128 = true then (some false) else (some false)) else (if t128 = true then (some false) else (some false)))) else (if t128 = true then (some false) else (some false)))) else (if t128 = true then (some false) else (some false)))) else (if bt131.2 = 0 then ((safe_Mul.f a0 a1).bind fun t140 => (if t140 = bt131.1 then (if a1 = 0 then (if t128 = true then (some false) else (some false)) else (if (wrap64 (Int.tdiv bt131.1 a1)) = a0 then (if t128 = true then (some false) else (some false)) else (if t128 = true then (some false) else (some false)))) else (if t128 = true then (some false) else (some false)))) else (if t128 = true then (some false) else (some false)))))) else (if bt131.2 = 10 then (if bt131.1 = 0 then (if t128 = true then (some false) else (some false)) else (if bt131.2 = 0 then ((safe_Mul.f a0 a1).bind fun t141 => (if t141 = bt131.1 then (if a1 = 0 then (if t128 = true then (some false) else (some false)) else (if (wrap64 (Int.tdiv bt131.1 a1)) = a0 then (if t128 = true then (some false) else (some false)) else (if t128 = true then (some false) else (some false)))) else (if t128 = true then (some false) else (some false)))) else (if t128 = true then (some false) else (some false)))) else (if bt131.2 = 0 then ((safe_Mul.f a0 a1).bind fun t142 => (if t142 = bt131.1 then (if a1 = 0 then (if t128 = true then (some false) else (some false)) else (if (wrap64 (Int.tdiv bt131.1 a1)) = a0 then (if t128 = true then (some false) else (some false)) else (if t128 = true then (some false) else (some false)))) else (if t128 = true then (some false) else (some false)))) else (if t128 = true then (some false) else (some false)))))) else (if t130 = 0 then ((safe_Sub.f t129 a1).bind fun t143 => (if t143 = a0 then ((safe_Add.f a0 a1).bind fun t144 => (if bt131.2 = 10 then (if bt131.1 = 0 then (if t128 = true then (if t144 = t129 then (some true) else (some false)) else (some false)) else (if bt131.2 = 0 then ((safe_Mul.f a0 a1).bind fun t145 => (if t145 = bt131.1 then (if a1 = 0 then (if t128 = true then (if t144 = t129 then (some true) else (some false)) else (some false)) else (if (wrap64 (Int.tdiv bt131.1 a1)) = a0 then (if t128 = true then (if t144 = t129 then (some ((Int.tmod bt131.1 a1) == 0)) else (some false)) else (some false)) else (if t128 = true then (if t144 = t129 then (some false) else (some false)) else (some false)))) else (if t128 = true then (if t144 = t129 then (some false) else (some false)) else (some false)))) else (if t128 = true then (if t144 = t129 then (some false) else (some false)) else (some false)))) else (if bt131.2 = 0 then ((safe_Mul.f a0 a1).bind fun t146 => (if t146 = bt131.1 then (if a1 = 0 then (if t128 = true then (if t144 = t129 then (some true) else (some false)) else (some false)) else (if (wrap64 (Int.tdiv bt131.1 a1)) = a0 then (if t128 = true then (if t144 = t129 then (some ((Int.tmod bt131.1 a1) == 0)) else (some false)) else (some false)) else (if t128 = true then (if t144 = t129 then (some false) else (some false)) else (some false)))) else (if t128 = true then (if t144 = t129 then (some false) else (some false)) else (some false)))) else (if t128 = true then (if t144 = t129 then (some false) else (some false)) else (some false))))) else (if bt131.2 = 10 then (if bt131.1 = 0 then (if t128 = true then (some false) else (some false)) else (if bt131.2 = 0 then ((safe_Mul.f a0 a1).bind fun t147 => (if t147 = bt131.1 then (if a1 = 0 then (if t128 = true then (some false) else (some false)) else (if (wrap64 (Int.tdiv bt131.1 a1)) = a0 then (if t128 = true then (some false) else (some false)) else (if t128 = true then (some false) else (some false)))) else (if t128 = true then (some false) else (some false)))) else (if t128 = true then (some false) else (some false)))) else (if bt131.2 = 0 then ((safe_Mul.f a0 a1).bind fun t148 => (if t148 = bt131.1 then (if a1 = 0 then (if t128 = true then (some false) else (some false)) else (if (wrap64 (Int.tdiv bt131.1 a1)) = a0 then (if t128 = true then (some false) else (some false)) else (if t128 = true then (some false) else (some false)))) else (if t128 = true then (some false) else (some false)))) else (if t128 = true then (some false) else (some false)))))) else (if bt131.2 = 10 then (if bt131.1 = 0 then (if t128 = true then (some false) else (some false)) else (if bt131.2 = 0 then ((safe_Mul.f a0 a1).bind fun t149 => (if t149 = bt131.1 then (if a1 = 0 then (if t128 = true then (some false) else (some false)) else (if (wrap64 (Int.tdiv bt131.1 a1)) = a0 then (if t128 = true then (some false) else (some false)) else (if t128 = true then (some false) else (some false)))) else (if t128 = true then (some false) else (some false)))) else (if t128 = true then (some false) else (some false)))) else (if bt131.2 = 0 then ((safe_Mul.f a0 a1).bind fun t150 => (if t150 = bt131.1 then (if a1 = 0 then (if t128 = true then (some false) else (some false)) else (if (wrap64 (Int.tdiv bt131.1 a1)) = a0 then (if t128 = true then (some false) else (some false)) else (if t128 = true then (some false) else (some false)))) else (if t128 = true then (some false) else (some false)))) else (if t128 = true then (some false) else (some false))))))) = some r := H
  have A4 := Aside0.mk A40
  clear A40
  replace H := Option.bind_eq_some_iff.mp H
  obtain ⟨⟨t131, t132⟩, A50, H⟩ := H
  replace H : (if t130 = 10 then (if t129 = 0 then (if t132 = 10 then (if t131 = 0 then (if t128 = true then (some true) else (some false)) else (if t132 = 0 then ((safe_Mul.f a0 a1).bind fun t133 => (if t133 = t131 then (if a1 = 0 then (if t128 = true then (some true) else (some false)) else (if (wrap64 (Int.tdiv t131 a1)) = a0 then (if t128 = true then (some ((Int.tmod t131 a1) == 0)) else (some false)) else (if t128 = true then (some false) else (some false)))) else (if t128 = true then (some false) else (some false)))) else (if t128 = true then (some false) else (some false)))) else (if t132 = 0 then ((safe_Mul.f a0 a1).bind fun t134 => (if t134 = t131 then (if a1 = 0 then (if t128 = true then (some true) else (some false)) else (if (wrap64 (Int.tdiv t131 a1)) = a0 then (if t128 = true then (some ((Int.tmod t131 a1) == 0)) else (some false)) else (if t128 = true then (some false) else (some false)))) else (if t128 = true then (some false) else (some false)))) else (if t128 = true then (some false) else (some false)))) else (if t130 = 0 then ((safe_Sub.f t129 a1).bind fun t135 => (if t135 = a0 then ((safe_Add.f a0 a1).bind fun t136 => (if t132 = 10 then (if t131 = 0 then (if t128 = true then (if t136 = t129 then (some true) else (some false)) else (some false)) else (if t132 = 0 then ((safe_Mul.f a0 a1).bind fun t137 => (if t137 = t131 then (if a1 = 0 then (if t128 = true then (if t136 = t129 then (some true) else (some false)) else (some false)) else (if (wrap64 (Int.tdiv t131 a1)) = a0 then (if t128 = true then (if t136 = t129 then (some ((Int.tmod t131 a1) == 0)) else (some false)) else (some false)) else (if t128 = true then (if t136 = t129 then (some false) else (some false)) else (some false)))) else (if t128 = true then (if t136 = t129 then (some false) else (some false)) else (some false)))) else (if t128 = true then (if t136 = t129 then (some false) else (some false)) else (some false)))) else (if t132 = 0 then ((safe_Mul.f a0 a1).bind fun t138 => (if t138 = t131 then (if a1 = 0 then (if t128 = true then (if t136 = t129 then (some true) else (some false)) else (some false)) else (if (wrap64 (Int.tdiv t131 a1)) = a0 then (if t128 = true then (if t136 = t129 then (some ((Int.tmod t131 a1) == 0)) else (some false)) else (some false)) else (if t128 = true then (if t136 = t129 then (some false) else (some false)) else (some false)))) else (if t128 = true then (if t136 = t129 then (some false) else (some false)) else (some false)))) else (if t128 = true then (if t136 = t129 then (some false) else (some false)) else (some false))))) else (if t132 = 10 then (if t131 = 0 then (if t128 = true then (some false) else (some false)) else (if t132 = 0 then ((safe_Mul.f a0 a1).bind fun t139 => (if t139 = t131 then (if a1 = 0 then (if t128 = true then (some false) else (some false)) else (if (wrap64 (Int.tdiv t131 a1)) = a0 then (if t128 = true then (some false) else (some false)) else (if t128 = true then (some false) else (some false)))) else (if t128 = true then (some false) else (some false)))) else (if t128 = true then (some false) else (some false)))) else (if t132 = 0 then ((safe_Mul.f a0 a1).bind fun t140 => (if t140 = t131 then (if a1 = 0 then (if t128 = true then (some false) else (some false)) else (if (wrap64 (Int.tdiv t131 a1)) = a0 then (if t128 = true then (some false) else (some false)) else (if t128 = true then (some false) else (some false)))) else (if t128 = true then (some false) else (some false)))) else (if t128 = true then (some false) else (some false)))))) else (if t132 = 10 then (if t131 = 0 then (if t128 = true then (some false) else (some false)) else (if t132 = 0 then ((safe_Mul.f a0 a1).bind fun t141 => (if t141 = t131 then (if a1 = 0 then (if t128 = true then (some false) else (some false)) else (if (wrap64 (Int.tdiv t131 a1)) = a0 then (if t128 = true then (some false) else (some false)) else (if t128 = true then (some false) else (some false)))) else (if t128 = true then (some false) else (some false)))) else (if t128 = true then (some false) else (some false)))) else (if t132 = 0 then ((safe_Mul.f a0 a1).bind fun t142 => (if t142 = t131 then (if a1 = 0 then (if t128 = true then (some false) else (some false)) else (if (wrap64 (Int.tdiv t131 a1)) = a0 then (if t128 = true then (some false) else (some false)) else (if t128 = true then (some false) else (some false)))) else (if t128 = true then (some false) else (some false)))) else (if t128 = true then (some false) else (some false)))))) else (if t130 = 0 then ((safe_Sub.f t129 a1).bind fun t143 => (if t143 = a0 then ((safe_Add.f a0 a1).bind fun t144 => (if t132 = 10 then (if t131 = 0 then (if t128 = true then (if t144 = t129 then (some true) else (some false)) else (some false)) else (if t132 = 0 then ((safe_Mul.f a0 a1).bind fun t145 => (if t145 = t131 then (if a1 = 0 then (if t128 = true then (if t144 = t129 then (some true) else (some false)) else (some false)) else (if (wrap64 (Int.tdiv t131 a1)) = a0 then (if t128 = true then (if t144 = t129 then (some ((Int.tmod t131 a1) == 0)) else (some false)) else (some false)) else (if t128 = true then (if t144 = t129 then (some false) else (some false)) else (some false)))) else (if t128 = true then (if t144 = t129 then (some false) else (some false)) else (some false)))) else (if t128 = true then (if t144 = t129 then (some false) else (some false)) else (some false)))) else (if t132 = 0 then ((safe_Mul.f a0 a1).bind fun t146 => (if t146 = t131 then (if a1 = 0 then (if t128 = true then (if t144 = t129 then (some true) else (some false)) else (some false)) else (if (wrap64 (Int.tdiv t131 a1)) = a0 then (if t128 = true then (if t144 = t129 then (some ((Int.tmod t131 a1) == 0)) else (some false)) else (some false)) else (if t128 = true then (if t144 = t129 then (some false) else (some false)) else (some false)))) else (if t128 = true then (if t144 = t129 then (some false) else (some false)) else (some false)))) else (if t128 = true then (if t144 = t129 then (some false) else (some false)) else (some false))))) else (if t132 = 10 then (if t131 = 0 then (if t128 = true then (some false) else (some false)) else (if t132 = 0 then ((safe_Mul.f a0 a1).bind fun t147 => (if t147 = t131 then (if a1 = 0 then (if t128 = true then (some false) else (some false)) else (if (wrap64 (Int.tdiv t131 a1)) = a0 then (if t128 = true then (some false) else (some false)) else (if t128 = true then (some false) else (some false)))) else (if t128 = true then (some false) else (some false)))) else (if t128 = true then (some false) else (some false)))) else (if t132 = 0 then ((safe_Mul.f a0 a1).bind fun t148 => (if t148 = t131 then (if a1 = 0 then (if t128 = true then (some false) else (some false)) else (if (wrap64 (Int.tdiv t131 a1)) = a0 then (if t128 = true then (some false) else (some false)) else (if t128 = true then (some false) else (some false)))) else (if t128 = true then (some false) else (some false)))) else (if t128 = true then (some false) else (some false)))))) else (if t132 = 10 then (if t131 = 0 then (if t128 = true then (some false) else (some false)) else (if t132 = 0 then ((safe_Mul.f a0 a1).bind fun t149 => (if t149 = t131 then (if a1 = 0 then (if t128 = true then (some false) else (some false)) else (if (wrap64 (Int.tdiv t131 a1)) = a0 then (if t128 = true then (some false) else (some false)) else (if t128 = true then (some false) else (some false)))) else (if t128 = true then (some false) else (some false)))) else (if t128 = true then (some false) else (some false)))) else (if t132 = 0 then ((safe_Mul.f a0 a1).bind fun t150 => (if t150 = t131 then (if a1 = 0 then (if t128 = true then (some false) else (some false)) else (if (wrap64 (Int.tdiv t131 a1)) = a0 then (if t128 = true then (some false) else (some false)) else (if t128 = true then (some false) else (some false)))) else (if t128 = true then (some false) else (some false)))) else (if t128 = true then (some false) else (some false)))))) = some r := H
  have A5 := Aside0.mk A50
  clear A50
  by_cases c6 : t130 = 10
  · rw [if_pos c6] at H
    have c6b0 : (t130 == 10) = true := beq_iff_eq.mpr c6
    have c6b1 : (t130 != 10) = false := bne_eq_false_iff_eq.mpr c6
    clear c6
    by_cases c7 : t129 = 0
    · rw [if_pos c7] at H
      have c7b0 : (t129 == 0) = true := beq_iff_eq.mpr c7
      have c7b1 : (t129 != 0) = false := bne_eq_false_iff_eq.mpr c7
      clear c7
      by_cases c8 : t132 = 10
      · rw [if_pos c8] at H
        have c8b0 : (t132 == 10) = true := beq_iff_eq.mpr c8
        have c8b1 : (t132 != 10) = false := bne_eq_false_iff_eq.mpr c8
        clear c8
        by_cases c9 : t131 = 0
        · rw [if_pos c9] at H
          have c9b0 : (t131 == 0) = true := beq_iff_eq.mpr c9
          have c9b1 : (t131 != 0) = false := bne_eq_false_iff_eq.mpr c9
          clear c9
          by_cases c10 : t128 = true
          · subst c10
            have H1 : (some true) = some r := by rw [if_pos rfl] at H; exact H
            clear H
            have H := H1
            clear H1
            obtain rfl := Option.some.inj H
            go_enter Try.func4, Try.ntmps4
            go_wp2_with (first | ((with_reducible refine gate_callee (f := 9) rfl ?_); refine goesL_ (some 12) rfl rfl Try.func9 (by kernel_rfl) rfl #[] rfl (by (try simp only [List.map_toArray, List.map_cons, List.map_nil]); first | done | rfl | (simp only [List.length_drop, List.length_take]; rfl)) ?_; (with_reducible refine (sawtoothlaw01_awake.calls  true _ A3.out).mono ?_); rintro e w11 ⟨rfl, hb⟩; refine ⟨_, rfl, ?_⟩; have n0_ := Aside0.mk (below_step (by repeat (first | (with_reducible first | exact HB.out | apply below_alloc | apply pw_below_drewN | apply below_drew1) | exact HB.out)) hb); clear HB; have HB := n0_; clear n0_; (try clear hb); (try clear hb2); (try clear hk); (try clear hi)) | ((with_reducible refine gate_callee (f := 10) rfl ?_); refine goesL_ (some 16) rfl rfl Try.func10 (by kernel_rfl) rfl #[.int .i64 a0, .int .i64 a1] rfl (by (try simp only [List.map_toArray, List.map_cons, List.map_nil]); first | done | rfl | (simp only [List.length_drop, List.length_take]; rfl)) ?_; (with_reducible refine (safe_Plus.calls a0 a1 t129 t130 _ A4.out).mono ?_); rintro e w' ⟨rfl, ⟨nd, rfl⟩⟩; refine ⟨_, rfl, ?_⟩) | ((with_reducible refine gate_callee (f := 12) rfl ?_); refine goesL_ (some 22) rfl rfl Try.func12 (by kernel_rfl) rfl #[.int .i64 a0, .int .i64 a1] rfl (by (try simp only [List.map_toArray, List.map_cons, List.map_nil]); first | done | rfl | (simp only [List.length_drop, List.length_take]; rfl)) ?_; (with_reducible refine (safe_Times.calls a0 a1 t131 t132 _ A5.out).mono ?_); rintro e w' ⟨rfl, ⟨nd, rfl⟩⟩; refine ⟨_, rfl, ?_⟩))
            go_ret
            exact ⟨by first | rfl | (simp [errW_none, errW_some] <;> rfl) | (simp [*, errW_none, errW_some] <;> rfl), by repeat (first | (with_reducible first | exact HB.out | apply below_alloc | apply pw_below_drewN | apply below_drew1) | exact HB.out)⟩
          · replace c10 := Bool.eq_false_iff.mpr c10
            subst c10
            have H1 : (some false) = some r := by rw [if_neg (show ¬ (false = true) by decide)] at H; exact H
            clear H
            have H := H1
            clear H1
            exact absurd ((Option.some.inj H).trans hr_) (by simp)
        · rw [if_neg c9] at H
          have c9b0 : (t131 == 0) = false := beq_eq_false_iff_ne.mpr c9
          have c9b1 : (t131 != 0) = true := bne_iff_ne.mpr c9
          by_cases c12 : t132 = 0
          · rw [if_pos c12] at H
            have c12b0 : (t132 == 0) = true := beq_iff_eq.mpr c12
            have c12b1 : (t132 != 0) = false := bne_eq_false_iff_eq.mpr c12
            clear c12
            replace H := Option.bind_eq_some_iff.mp H
            obtain ⟨t133, A130, H⟩ := H
            replace H : (if t133 = t131 then (if a1 = 0 then (if t128 = true then (some true) else (some false)) else (if (wrap64 (Int.tdiv t131 a1)) = a0 then (if t128 = true then (some ((Int.tmod t131 a1) == 0)) else (some false)) else (if t128 = true then (some false) else (some false)))) else (if t128 = true then (some false) else (some false))) = some r := H
            have A13 := Aside0.mk A130
            clear A130
            by_cases c14 : t133 = t131
            · rw [if_pos c14] at H
              have c14b0 : (t133 == t131) = true := beq_iff_eq.mpr c14
              have c14b1 : (t133 != t131) = false := bne_eq_false_iff_eq.mpr c14
              clear c14
              by_cases c15 : a1 = 0
              · rw [if_pos c15] at H
                have c15b0 : (a1 == 0) = true := beq_iff_eq.mpr c15
                have c15b1 : (a1 != 0) = false := bne_eq_false_iff_eq.mpr c15
                clear c15
                by_cases c16 : t128 = true
                · subst c16
                  have H1 : (some true) = some r := by rw [if_pos rfl] at H; exact H
                  clear H
                  have H := H1
                  clear H1
                  obtain rfl := Option.some.inj H
                  go_enter Try.func4, Try.ntmps4
                  go_wp2_with (first | ((with_reducible refine gate_callee (f := 9) rfl ?_); refine goesL_ (some 12) rfl rfl Try.func9 (by kernel_rfl) rfl #[] rfl (by (try simp only [List.map_toArray, List.map_cons, List.map_nil]); first | done | rfl | (simp only [List.length_drop, List.length_take]; rfl)) ?_; (with_reducible refine (sawtoothlaw01_awake.calls  true _ A3.out).mono ?_); rintro e w17 ⟨rfl, hb⟩; refine ⟨_, rfl, ?_⟩; have n0_ := Aside0.mk (below_step (by repeat (first | (with_reducible first | exact HB.out | apply below_alloc | apply pw_below_drewN | apply below_drew1) | exact HB.out)) hb); clear HB; have HB := n0_; clear n0_; (try clear hb); (try clear hb2); (try clear hk); (try clear hi)) | ((with_reducible refine gate_callee (f := 10) rfl ?_); refine goesL_ (some 16) rfl rfl Try.func10 (by kernel_rfl) rfl #[.int .i64 a0, .int .i64 a1] rfl (by (try simp only [List.map_toArray, List.map_cons, List.map_nil]); first | done | rfl | (simp only [List.length_drop, List.length_take]; rfl)) ?_; (with_reducible refine (safe_Plus.calls a0 a1 t129 t130 _ A4.out).mono ?_); rintro e w' ⟨rfl, ⟨nd, rfl⟩⟩; refine ⟨_, rfl, ?_⟩) | ((with_reducible refine gate_callee (f := 12) rfl ?_); refine goesL_ (some 22) rfl rfl Try.func12 (by kernel_rfl) rfl #[.int .i64 a0, .int .i64 a1] rfl (by (try simp only [List.map_toArray, List.map_cons, List.map_nil]); first | done | rfl | (simp only [List.length_drop, List.length_take]; rfl)) ?_; (with_reducible refine (safe_Times.calls a0 a1 t131 t132 _ A5.out).mono ?_); rintro e w' ⟨rfl, ⟨nd, rfl⟩⟩; refine ⟨_, rfl, ?_⟩) | (go_at_call 18; (with_reducible refine (safe_Mul.calls a0 a1 t133 _ A13.out).mono ?_); rintro e w18 ⟨rfl, hb⟩; have n0_ := Aside0.mk (below_step (by repeat (first | (with_reducible first | exact HB.out | apply below_alloc | apply pw_below_drewN | apply below_drew1) | exact HB.out)) hb); clear HB; have HB := n0_; clear n0_; (try clear hb); (try clear hb2); (try clear hk); (try clear hi)))
                  go_ret
                  exact ⟨by first | rfl | (simp [errW_none, errW_some] <;> rfl) | (simp [*, errW_none, errW_some] <;> rfl), by repeat (first | (with_reducible first | exact HB.out | apply below_alloc | apply pw_below_drewN | apply below_drew1) | exact HB.out)⟩
                · replace c16 := Bool.eq_false_iff.mpr c16
                  subst c16
                  have H1 : (some false) = some r := by rw [if_neg (show ¬ (false = true) by decide)] at H; exact H
                  clear H
                  have H := H1
                  clear H1
                  exact absurd ((Option.some.inj H).trans hr_) (by simp)
              · rw [if_neg c15] at H
                have c15b0 : (a1 == 0) = false := beq_eq_false_iff_ne.mpr c15
                have c15b1 : (a1 != 0) = true := bne_iff_ne.mpr c15
                by_cases c19 : (wrap64 (Int.tdiv t131 a1)) = a0
                · rw [if_pos c19] at H
                  have c19b0 : ((wrap64 (Int.tdiv t131 a1)) == a0) = true := beq_iff_eq.mpr c19
                  have c19b1 : ((wrap64 (Int.tdiv t131 a1)) != a0) = false := bne_eq_false_iff_eq.mpr c19
                  clear c19
                  by_cases c20 : t128 = true
                  · subst c20
                    have H1 : (some ((Int.tmod t131 a1) == 0)) = some r := by rw [if_pos rfl] at H; exact H
                    clear H
                    have H := H1
                    clear H1
                    obtain rfl := Option.some.inj H
                    go_enter Try.func4, Try.ntmps4
                    go_wp2_with (first | ((with_reducible refine gate_callee (f := 9) rfl ?_); refine goesL_ (some 12) rfl rfl Try.func9 (by kernel_rfl) rfl #[] rfl (by (try simp only [List.map_toArray, List.map_cons, List.map_nil]); first | done | rfl | (simp only [List.length_drop, List.length_take]; rfl)) ?_; (with_reducible refine (sawtoothlaw01_awake.calls  true _ A3.out).mono ?_); rintro e w21 ⟨rfl, hb⟩; refine ⟨_, rfl, ?_⟩; have n0_ := Aside0.mk (below_step (by repeat (first | (with_reducible first | exact HB.out | apply below_alloc | apply pw_below_drewN | apply below_drew1) | exact HB.out)) hb); clear HB; have HB := n0_; clear n0_; (try clear hb); (try clear hb2); (try clear hk); (try clear hi)) | ((with_reducible refine gate_callee (f := 10) rfl ?_); refine goesL_ (some 16) rfl rfl Try.func10 (by kernel_rfl) rfl #[.int .i64 a0, .int .i64 a1] rfl (by (try simp only [List.map_toArray, List.map_cons, List.map_nil]); first | done | rfl | (simp only [List.length_drop, List.length_take]; rfl)) ?_; (with_reducible refine (safe_Plus.calls a0 a1 t129 t130 _ A4.out).mono ?_); rintro e w' ⟨rfl, ⟨nd, rfl⟩⟩; refine ⟨_, rfl, ?_⟩) | ((with_reducible refine gate_callee (f := 12) rfl ?_); refine goesL_ (some 22) rfl rfl Try.func12 (by kernel_rfl) rfl #[.int .i64 a0, .int .i64 a1] rfl (by (try simp only [List.map_toArray, List.map_cons, List.map_nil]); first | done | rfl | (simp only [List.length_drop, List.length_take]; rfl)) ?_; (with_reducible refine (safe_Times.calls a0 a1 t131 t132 _ A5.out).mono ?_); rintro e w' ⟨rfl, ⟨nd, rfl⟩⟩; refine ⟨_, rfl, ?_⟩) | (go_at_call 18; (with_reducible refine (safe_Mul.calls a0 a1 t133 _ A13.out).mono ?_); rintro e w22 ⟨rfl, hb⟩; have n0_ := Aside0.mk (below_step (by repeat (first | (with_reducible first | exact HB.out | apply below_alloc | apply pw_below_drewN | apply below_drew1) | exact HB.out)) hb); clear HB; have HB := n0_; clear n0_; (try clear hb); (try clear hb2); (try clear hk); (try clear hi)))
                    go_ret
                    exact ⟨by first | rfl | (simp [errW_none, errW_some] <;> rfl) | (simp [*, errW_none, errW_some] <;> rfl), by repeat (first | (with_reducible first | exact HB.out | apply below_alloc | apply pw_below_drewN | apply below_drew1) | exact HB.out)⟩
                  · replace c20 := Bool.eq_false_iff.mpr c20
                    subst c20
                    have H1 : (some false) = some r := by rw [if_neg (show ¬ (false = true) by decide)] at H; exact H
                    clear H
                    have H := H1
                    clear H1
                    exact absurd ((Option.some.inj H).trans hr_) (by simp)
                · rw [if_neg c19] at H
                  have c19b0 : ((wrap64 (Int.tdiv t131 a1)) == a0) = false := beq_eq_false_iff_ne.mpr c19
                  have c19b1 : ((wrap64 (Int.tdiv t131 a1)) != a0) = true := bne_iff_ne.mpr c19
                  by_cases c23 : t128 = true
                  · subst c23
                    have H1 : (some false) = some r := by rw [if_pos rfl] at H; exact H
                    clear H
                    have H := H1
                    clear H1
                    exact absurd ((Option.some.inj H).trans hr_) (by simp)
                  · replace c23 := Bool.eq_false_iff.mpr c23
                    subst c23
                    have H1 : (some false) = some r := by rw [if_neg (show ¬ (false = true) by decide)] at H; exact H
                    clear H
                    have H := H1
                    clear H1
                    exact absurd ((Option.some.inj H).trans hr_) (by simp)
            · rw [if_neg c14] at H
              have c14b0 : (t133 == t131) = false := beq_eq_false_iff_ne.mpr c14
              have c14b1 : (t133 != t131) = true := bne_iff_ne.mpr c14
              by_cases c24 : t128 = true
              · subst c24
                have H1 : (some false) = some r := by rw [if_pos rfl] at H; exact H
                clear H
                have H := H1
                clear H1
                exact absurd ((Option.some.inj H).trans hr_) (by simp)
              · replace c24 := Bool.eq_false_iff.mpr c24
                subst c24
                have H1 : (some false) = some r := by rw [if_neg (show ¬ (false = true) by decide)] at H; exact H
                clear H
                have H := H1
                clear H1
                exact absurd ((Option.some.inj H).trans hr_) (by simp)
          · rw [if_neg c12] at H
            have c12b0 : (t132 == 0) = false := beq_eq_false_iff_ne.mpr c12
            have c12b1 : (t132 != 0) = true := bne_iff_ne.mpr c12
            by_cases c25 : t128 = true
            · subst c25
              have H1 : (some false) = some r := by rw [if_pos rfl] at H; exact H
              clear H
              have H := H1
              clear H1
              exact absurd ((Option.some.inj H).trans hr_) (by simp)
            · replace c25 := Bool.eq_false_iff.mpr c25
              subst c25
              have H1 : (some false) = some r := by rw [if_neg (show ¬ (false = true) by decide)] at H; exact H
              clear H
              have H := H1
              clear H1
              exact absurd ((Option.some.inj H).trans hr_) (by simp)
      · rw [if_neg c8] at H
        have c8b0 : (t132 == 10) = false := beq_eq_false_iff_ne.mpr c8
        have c8b1 : (t132 != 10) = true := bne_iff_ne.mpr c8
        by_cases c26 : t132 = 0
        · rw [if_pos c26] at H
          have c26b0 : (t132 == 0) = true := beq_iff_eq.mpr c26
          have c26b1 : (t132 != 0) = false := bne_eq_false_iff_eq.mpr c26
          clear c26
          replace H := Option.bind_eq_some_iff.mp H
          obtain ⟨t134, A270, H⟩ := H
          replace H : (if t134 = t131 then (if a1 = 0 then (if t128 = true then (some true) else (some false)) else (if (wrap64 (Int.tdiv t131 a1)) = a0 then (if t128 = true then (some ((Int.tmod t131 a1) == 0)) else (some false)) else (if t128 = true then (some false) else (some false)))) else (if t128 = true then (some false) else (some false))) = some r := H
          have A27 := Aside0.mk A270
          clear A270
          by_cases c28 : t134 = t131
          · rw [if_pos c28] at H
            have c28b0 : (t134 == t131) = true := beq_iff_eq.mpr c28
            have c28b1 : (t134 != t131) = false := bne_eq_false_iff_eq.mpr c28
            clear c28
            by_cases c29 : a1 = 0
            · rw [if_pos c29] at H
              have c29b0 : (a1 == 0) = true := beq_iff_eq.mpr c29
              have c29b1 : (a1 != 0) = false := bne_eq_false_iff_eq.mpr c29
              clear c29
              by_cases c30 : t128 = true
              · subst c30
                have H1 : (some true) = some r := by rw [if_pos rfl] at H; exact H
                clear H
                have H := H1
                clear H1
                obtain rfl := Option.some.inj H
                go_enter Try.func4, Try.ntmps4
                go_wp2_with (first | ((with_reducible refine gate_callee (f := 9) rfl ?_); refine goesL_ (some 12) rfl rfl Try.func9 (by kernel_rfl) rfl #[] rfl (by (try simp only [List.map_toArray, List.map_cons, List.map_nil]); first | done | rfl | (simp only [List.length_drop, List.length_take]; rfl)) ?_; (with_reducible refine (sawtoothlaw01_awake.calls  true _ A3.out).mono ?_); rintro e w31 ⟨rfl, hb⟩; refine ⟨_, rfl, ?_⟩; have n0_ := Aside0.mk (below_step (by repeat (first | (with_reducible first | exact HB.out | apply below_alloc | apply pw_below_drewN | apply below_drew1) | exact HB.out)) hb); clear HB; have HB := n0_; clear n0_; (try clear hb); (try clear hb2); (try clear hk); (try clear hi)) | ((with_reducible refine gate_callee (f := 10) rfl ?_); refine goesL_ (some 16) rfl rfl Try.func10 (by kernel_rfl) rfl #[.int .i64 a0, .int .i64 a1] rfl (by (try simp only [List.map_toArray, List.map_cons, List.map_nil]); first | done | rfl | (simp only [List.length_drop, List.length_take]; rfl)) ?_; (with_reducible refine (safe_Plus.calls a0 a1 t129 t130 _ A4.out).mono ?_); rintro e w' ⟨rfl, ⟨nd, rfl⟩⟩; refine ⟨_, rfl, ?_⟩) | ((with_reducible refine gate_callee (f := 12) rfl ?_); refine goesL_ (some 22) rfl rfl Try.func12 (by kernel_rfl) rfl #[.int .i64 a0, .int .i64 a1] rfl (by (try simp only [List.map_toArray, List.map_cons, List.map_nil]); first | done | rfl | (simp only [List.length_drop, List.length_take]; rfl)) ?_; (with_reducible refine (safe_Times.calls a0 a1 t131 t132 _ A5.out).mono ?_); rintro e w' ⟨rfl, ⟨nd, rfl⟩⟩; refine ⟨_, rfl, ?_⟩) | (go_at_call 18; (with_reducible refine (safe_Mul.calls a0 a1 t134 _ A27.out).mono ?_); rintro e w32 ⟨rfl, hb⟩; have n0_ := Aside0.mk (below_step (by repeat (first | (with_reducible first | exact HB.out | apply below_alloc | apply pw_below_drewN | apply below_drew1) | exact HB.out)) hb); clear HB; have HB := n0_; clear n0_; (try clear hb); (try clear hb2); (try clear hk); (try clear hi)))
                go_ret
                exact ⟨by first | rfl | (simp [errW_none, errW_some] <;> rfl) | (simp [*, errW_none, errW_some] <;> rfl), by repeat (first | (with_reducible first | exact HB.out | apply below_alloc | apply pw_below_drewN | apply below_drew1) | exact HB.out)⟩
              · replace c30 := Bool.eq_false_iff.mpr c30
                subst c30
                have H1 : (some false) = some r := by rw [if_neg (show ¬ (false = true) by decide)] at H; exact H
                clear H
                have H := H1
                clear H1
                exact absurd ((Option.some.inj H).trans hr_) (by simp)
            · rw [if_neg c29] at H
              have c29b0 : (a1 == 0) = false := beq_eq_false_iff_ne.mpr c29
              have c29b1 : (a1 != 0) = true := bne_iff_ne.mpr c29
              by_cases c33 : (wrap64 (Int.tdiv t131 a1)) = a0
              · rw [if_pos c33] at H
                have c33b0 : ((wrap64 (Int.tdiv t131 a1)) == a0) = true := beq_iff_eq.mpr c33
                have c33b1 : ((wrap64 (Int.tdiv t131 a1)) != a0) = false := bne_eq_false_iff_eq.mpr c33
                clear c33
                by_cases c34 : t128 = true
                · subst c34
                  have H1 : (some ((Int.tmod t131 a1) == 0)) = some r := by rw [if_pos rfl] at H; exact H
                  clear H
                  have H := H1
                  clear H1
                  obtain rfl := Option.some.inj H
                  go_enter Try.func4, Try.ntmps4
                  go_wp2_with (first | ((with_reducible refine gate_callee (f := 9) rfl ?_); refine goesL_ (some 12) rfl rfl Try.func9 (by kernel_rfl) rfl #[] rfl (by (try simp only [List.map_toArray, List.map_cons, List.map_nil]); first | done | rfl | (simp only [List.length_drop, List.length_take]; rfl)) ?_; (with_reducible refine (sawtoothlaw01_awake.calls  true _ A3.out).mono ?_); rintro e w35 ⟨rfl, hb⟩; refine ⟨_, rfl, ?_⟩; have n0_ := Aside0.mk (below_step (by repeat (first | (with_reducible first | exact HB.out | apply below_alloc | apply pw_below_drewN | apply below_drew1) | exact HB.out)) hb); clear HB; have HB := n0_; clear n0_; (try clear hb); (try clear hb2); (try clear hk); (try clear hi)) | ((with_reducible refine gate_callee (f := 10) rfl ?_); refine goesL_ (some 16) rfl rfl Try.func10 (by kernel_rfl) rfl #[.int .i64 a0, .int .i64 a1] rfl (by (try simp only [List.map_toArray, List.map_cons, List.map_nil]); first | done | rfl | (simp only [List.length_drop, List.length_take]; rfl)) ?_; (with_reducible refine (safe_Plus.calls a0 a1 t129 t130 _ A4.out).mono ?_); rintro e w' ⟨rfl, ⟨nd, rfl⟩⟩; refine ⟨_, rfl, ?_⟩) | ((with_reducible refine gate_callee (f := 12) rfl ?_); refine goesL_ (some 22) rfl rfl Try.func12 (by kernel_rfl) rfl #[.int .i64 a0, .int .i64 a1] rfl (by (try simp only [List.map_toArray, List.map_cons, List.map_nil]); first | done | rfl | (simp only [List.length_drop, List.length_take]; rfl)) ?_; (with_reducible refine (safe_Times.calls a0 a1 t131 t132 _ A5.out).mono ?_); rintro e w' ⟨rfl, ⟨nd, rfl⟩⟩; refine ⟨_, rfl, ?_⟩) | (go_at_call 18; (with_reducible refine (safe_Mul.calls a0 a1 t134 _ A27.out).mono ?_); rintro e w36 ⟨rfl, hb⟩; have n0_ := Aside0.mk (below_step (by repeat (first | (with_reducible first | exact HB.out | apply below_alloc | apply pw_below_drewN | apply below_drew1) | exact HB.out)) hb); clear HB; have HB := n0_; clear n0_; (try clear hb); (try clear hb2); (try clear hk); (try clear hi)))
                  go_ret
                  exact ⟨by first | rfl | (simp [errW_none, errW_some] <;> rfl) | (simp [*, errW_none, errW_some] <;> rfl), by repeat (first | (with_reducible first | exact HB.out | apply below_alloc | apply pw_below_drewN | apply below_drew1) | exact HB.out)⟩
                · replace c34 := Bool.eq_false_iff.mpr c34
                  subst c34
                  have H1 : (some false) = some r := by rw [if_neg (show ¬ (false = true) by decide)] at H; exact H
                  clear H
                  have H := H1
                  clear H1
                  exact absurd ((Option.some.inj H).trans hr_) (by simp)
              · rw [if_neg c33] at H
                have c33b0 : ((wrap64 (Int.tdiv t131 a1)) == a0) = false := beq_eq_false_iff_ne.mpr c33
                have c33b1 : ((wrap64 (Int.tdiv t131 a1)) != a0) = true := bne_iff_ne.mpr c33
                by_cases c37 : t128 = true
                · subst c37
                  have H1 : (some false) = some r := by rw [if_pos rfl] at H; exact H
                  clear H
                  have H := H1
                  clear H1
                  exact absurd ((Option.some.inj H).trans hr_) (by simp)
                · replace c37 := Bool.eq_false_iff.mpr c37
                  subst c37
                  have H1 : (some false) = some r := by rw [if_neg (show ¬ (false = true) by decide)] at H; exact H
                  clear H
                  have H := H1
                  clear H1
                  exact absurd ((Option.some.inj H).trans hr_) (by simp)
          · rw [if_neg c28] at H
            have c28b0 : (t134 == t131) = false := beq_eq_false_iff_ne.mpr c28
            have c28b1 : (t134 != t131) = true := bne_iff_ne.mpr c28
            by_cases c38 : t128 = true
            · subst c38
              have H1 : (some false) = some r := by rw [if_pos rfl] at H; exact H
              clear H
              have H := H1
              clear H1
              exact absurd ((Option.some.inj H).trans hr_) (by simp)
            · replace c38 := Bool.eq_false_iff.mpr c38
              subst c38
              have H1 : (some false) = some r := by rw [if_neg (show ¬ (false = true) by decide)] at H; exact H
              clear H
              have H := H1
              clear H1
              exact absurd ((Option.some.inj H).trans hr_) (by simp)
        · rw [if_neg c26] at H
          have c26b0 : (t132 == 0) = false := beq_eq_false_iff_ne.mpr c26
          have c26b1 : (t132 != 0) = true := bne_iff_ne.mpr c26
          by_cases c39 : t128 = true
          · subst c39
            have H1 : (some false) = some r := by rw [if_pos rfl] at H; exact H
            clear H
            have H := H1
            clear H1
            exact absurd ((Option.some.inj H).trans hr_) (by simp)
          · replace c39 := Bool.eq_false_iff.mpr c39
            subst c39
            have H1 : (some false) = some r := by rw [if_neg (show ¬ (false = true) by decide)] at H; exact H
            clear H
            have H := H1
            clear H1
            exact absurd ((Option.some.inj H).trans hr_) (by simp)
    · rw [if_neg c7] at H
      have c7b0 : (t129 == 0) = false := beq_eq_false_iff_ne.mpr c7
      have c7b1 : (t129 != 0) = true := bne_iff_ne.mpr c7
      by_cases c40 : t130 = 0
      · rw [if_pos c40] at H
        have c40b0 : (t130 == 0) = true := beq_iff_eq.mpr c40
        have c40b1 : (t130 != 0) = false := bne_eq_false_iff_eq.mpr c40
        clear c40
        replace H := Option.bind_eq_some_iff.mp H
        obtain ⟨t135, A410, H⟩ := H
        replace H : (if t135 = a0 then ((safe_Add.f a0 a1).bind fun t136 => (if t132 = 10 then (if t131 = 0 then (if t128 = true then (if t136 = t129 then (some true) else (some false)) else (some false)) else (if t132 = 0 then ((safe_Mul.f a0 a1).bind fun t137 => (if t137 = t131 then (if a1 = 0 then (if t128 = true then (if t136 = t129 then (some true) else (some false)) else (some false)) else (if (wrap64 (Int.tdiv t131 a1)) = a0 then (if t128 = true then (if t136 = t129 then (some ((Int.tmod t131 a1) == 0)) else (some false)) else (some false)) else (if t128 = true then (if t136 = t129 then (some false) else (some false)) else (some false)))) else (if t128 = true then (if t136 = t129 then (some false) else (some false)) else (some false)))) else (if t128 = true then (if t136 = t129 then (some false) else (some false)) else (some false)))) else (if t132 = 0 then ((safe_Mul.f a0 a1).bind fun t138 => (if t138 = t131 then (if a1 = 0 then (if t128 = true then (if t136 = t129 then (some true) else (some false)) else (some false)) else (if (wrap64 (Int.tdiv t131 a1)) = a0 then (if t128 = true then (if t136 = t129 then (some ((Int.tmod t131 a1) == 0)) else (some false)) else (some false)) else (if t128 = true then (if t136 = t129 then (some false) else (some false)) else (some false)))) else (if t128 = true then (if t136 = t129 then (some false) else (some false)) else (some false)))) else (if t128 = true then (if t136 = t129 then (some false) else (some false)) else (some false))))) else (if t132 = 10 then (if t131 = 0 then (if t128 = true then (some false) else (some false)) else (if t132 = 0 then ((safe_Mul.f a0 a1).bind fun t139 => (if t139 = t131 then (if a1 = 0 then (if t128 = true then (some false) else (some false)) else (if (wrap64 (Int.tdiv t131 a1)) = a0 then (if t128 = true then (some false) else (some false)) else (if t128 = true then (some false) else (some false)))) else (if t128 = true then (some false) else (some false)))) else (if t128 = true then (some false) else (some false)))) else (if t132 = 0 then ((safe_Mul.f a0 a1).bind fun t140 => (if t140 = t131 then (if a1 = 0 then (if t128 = true then (some false) else (some false)) else (if (wrap64 (Int.tdiv t131 a1)) = a0 then (if t128 = true then (some false) else (some false)) else (if t128 = true then (some false) else (some false)))) else (if t128 = true then (some false) else (some false)))) else (if t128 = true then (some false) else (some false))))) = some r := H
        have A41 := Aside0.mk A410
        clear A410
        by_cases c42 : t135 = a0
        · rw [if_pos c42] at H
          have c42b0 : (t135 == a0) = true := beq_iff_eq.mpr c42
          have c42b1 : (t135 != a0) = false := bne_eq_false_iff_eq.mpr c42
          clear c42
          replace H := Option.bind_eq_some_iff.mp H
          obtain ⟨t136, A430, H⟩ := H
          replace H : (if t132 = 10 then (if t131 = 0 then (if t128 = true then (if t136 = t129 then (some true) else (some false)) else (some false)) else (if t132 = 0 then ((safe_Mul.f a0 a1).bind fun t137 => (if t137 = t131 then (if a1 = 0 then (if t128 = true then (if t136 = t129 then (some true) else (some false)) else (some false)) else (if (wrap64 (Int.tdiv t131 a1)) = a0 then (if t128 = true then (if t136 = t129 then (some ((Int.tmod t131 a1) == 0)) else (some false)) else (some false)) else (if t128 = true then (if t136 = t129 then (some false) else (some false)) else (some false)))) else (if t128 = true then (if t136 = t129 then (some false) else (some false)) else (some false)))) else (if t128 = true then (if t136 = t129 then (some false) else (some false)) else (some false)))) else (if t132 = 0 then ((safe_Mul.f a0 a1).bind fun t138 => (if t138 = t131 then (if a1 = 0 then (if t128 = true then (if t136 = t129 then (some true) else (some false)) else (some false)) else (if (wrap64 (Int.tdiv t131 a1)) = a0 then (if t128 = true then (if t136 = t129 then (some ((Int.tmod t131 a1) == 0)) else (some false)) else (some false)) else (if t128 = true then (if t136 = t129 then (some false) else (some false)) else (some false)))) else (if t128 = true then (if t136 = t129 then (some false) else (some false)) else (some false)))) else (if t128 = true then (if t136 = t129 then (some false) else (some false)) else (some false)))) = some r := H
          have A43 := Aside0.mk A430
          clear A430
          by_cases c44 : t132 = 10
          · rw [if_pos c44] at H
            have c44b0 : (t132 == 10) = true := beq_iff_eq.mpr c44
            have c44b1 : (t132 != 10) = false := bne_eq_false_iff_eq.mpr c44
            clear c44
            by_cases c45 : t131 = 0
            · rw [if_pos c45] at H
              have c45b0 : (t131 == 0) = true := beq_iff_eq.mpr c45
              have c45b1 : (t131 != 0) = false := bne_eq_false_iff_eq.mpr c45
              clear c45
              by_cases c46 : t128 = true
              · subst c46
                have H1 : (if t136 = t129 then (some true) else (some false)) = some r := by rw [if_pos rfl] at H; exact H
                clear H
                have H := H1
                clear H1
                by_cases c47 : t136 = t129
                · rw [if_pos c47] at H
                  have c47b0 : (t136 == t129) = true := beq_iff_eq.mpr c47
                  have c47b1 : (t136 != t129) = false := bne_eq_false_iff_eq.mpr c47
                  clear c47
                  obtain rfl := Option.some.inj H
                  go_enter Try.func4, Try.ntmps4
                  go_wp2_with (first | ((with_reducible refine gate_callee (f := 9) rfl ?_); refine goesL_ (some 12) rfl rfl Try.func9 (by kernel_rfl) rfl #[] rfl (by (try simp only [List.map_toArray, List.map_cons, List.map_nil]); first | done | rfl | (simp only [List.length_drop, List.length_take]; rfl)) ?_; (with_reducible refine (sawtoothlaw01_awake.calls  true _ A3.out).mono ?_); rintro e w48 ⟨rfl, hb⟩; refine ⟨_, rfl, ?_⟩; have n0_ := Aside0.mk (below_step (by repeat (first | (with_reducible first | exact HB.out | apply below_alloc | apply pw_below_drewN | apply below_drew1) | exact HB.out)) hb); clear HB; have HB := n0_; clear n0_; (try clear hb); (try clear hb2); (try clear hk); (try clear hi)) | ((with_reducible refine gate_callee (f := 10) rfl ?_); refine goesL_ (some 16) rfl rfl Try.func10 (by kernel_rfl) rfl #[.int .i64 a0, .int .i64 a1] rfl (by (try simp only [List.map_toArray, List.map_cons, List.map_nil]); first | done | rfl | (simp only [List.length_drop, List.length_take]; rfl)) ?_; (with_reducible refine (safe_Plus.calls a0 a1 t129 t130 _ A4.out).mono ?_); rintro e w' ⟨rfl, ⟨nd, rfl⟩⟩; refine ⟨_, rfl, ?_⟩) | ((with_reducible refine gate_callee (f := 12) rfl ?_); refine goesL_ (some 22) rfl rfl Try.func12 (by kernel_rfl) rfl #[.int .i64 a0, .int .i64 a1] rfl (by (try simp only [List.map_toArray, List.map_cons, List.map_nil]); first | done | rfl | (simp only [List.length_drop, List.length_take]; rfl)) ?_; (with_reducible refine (safe_Times.calls a0 a1 t131 t132 _ A5.out).mono ?_); rintro e w' ⟨rfl, ⟨nd, rfl⟩⟩; refine ⟨_, rfl, ?_⟩) | (go_at_call 16; (with_reducible refine (safe_Sub.calls t129 a1 t135 _ A41.out).mono ?_); rintro e w49 ⟨rfl, hb⟩; have n0_ := Aside0.mk (below_step (by repeat (first | (with_reducible first | exact HB.out | apply below_alloc | apply pw_below_drewN | apply below_drew1) | exact HB.out)) hb); clear HB; have HB := n0_; clear n0_; (try clear hb); (try clear hb2); (try clear hk); (try clear hi)) | (go_at_call 14; (with_reducible refine (safe_Add.calls a0 a1 t136 _ A43.out).mono ?_); rintro e w50 ⟨rfl, hb⟩; have n0_ := Aside0.mk (below_step (by repeat (first | (with_reducible first | exact HB.out | apply below_alloc | apply pw_below_drewN | apply below_drew1) | exact HB.out)) hb); clear HB; have HB := n0_; clear n0_; (try clear hb); (try clear hb2); (try clear hk); (try clear hi)))
                  go_ret
                  exact ⟨by first | rfl | (simp [errW_none, errW_some] <;> rfl) | (simp [*, errW_none, errW_some] <;> rfl), by repeat (first | (with_reducible first | exact HB.out | apply below_alloc | apply pw_below_drewN | apply below_drew1) | exact HB.out)⟩
                · rw [if_neg c47] at H
                  have c47b0 : (t136 == t129) = false := beq_eq_false_iff_ne.mpr c47
                  have c47b1 : (t136 != t129) = true := bne_iff_ne.mpr c47
                  exact absurd ((Option.some.inj H).trans hr_) (by simp)
              · replace c46 := Bool.eq_false_iff.mpr c46
                subst c46
                have H1 : (some false) = some r := by rw [if_neg (show ¬ (false = true) by decide)] at H; exact H
                clear H
                have H := H1
                clear H1
                exact absurd ((Option.some.inj H).trans hr_) (by simp)
            · rw [if_neg c45] at H
              have c45b0 : (t131 == 0) = false := beq_eq_false_iff_ne.mpr c45
              have c45b1 : (t131 != 0) = true := bne_iff_ne.mpr c45
              by_cases c51 : t132 = 0
              · rw [if_pos c51] at H
                have c51b0 : (t132 == 0) = true := beq_iff_eq.mpr c51
                have c51b1 : (t132 != 0) = false := bne_eq_false_iff_eq.mpr c51
                clear c51
                replace H := Option.bind_eq_some_iff.mp H
                obtain ⟨t137, A520, H⟩ := H
                replace H : (if t137 = t131 then (if a1 = 0 then (if t128 = true then (if t136 = t129 then (some true) else (some false)) else (some false)) else (if (wrap64 (Int.tdiv t131 a1)) = a0 then (if t128 = true then (if t136 = t129 then (some ((Int.tmod t131 a1) == 0)) else (some false)) else (some false)) else (if t128 = true then (if t136 = t129 then (some false) else (some false)) else (some false)))) else (if t128 = true then (if t136 = t129 then (some false) else (some false)) else (some false))) = some r := H
                have A52 := Aside0.mk A520
                clear A520
                by_cases c53 : t137 = t131
                · rw [if_pos c53] at H
                  have c53b0 : (t137 == t131) = true := beq_iff_eq.mpr c53
                  have c53b1 : (t137 != t131) = false := bne_eq_false_iff_eq.mpr c53
                  clear c53
                  by_cases c54 : a1 = 0
                  · rw [if_pos c54] at H
                    have c54b0 : (a1 == 0) = true := beq_iff_eq.mpr c54
                    have c54b1 : (a1 != 0) = false := bne_eq_false_iff_eq.mpr c54
                    clear c54
                    by_cases c55 : t128 = true
                    · subst c55
                      have H1 : (if t136 = t129 then (some true) else (some false)) = some r := by rw [if_pos rfl] at H; exact H
                      clear H
                      have H := H1
                      clear H1
                      by_cases c56 : t136 = t129
                      · rw [if_pos c56] at H
                        have c56b0 : (t136 == t129) = true := beq_iff_eq.mpr c56
                        have c56b1 : (t136 != t129) = false := bne_eq_false_iff_eq.mpr c56
                        clear c56
                        obtain rfl := Option.some.inj H
                        go_enter Try.func4, Try.ntmps4
                        go_wp2_with (first | ((with_reducible refine gate_callee (f := 9) rfl ?_); refine goesL_ (some 12) rfl rfl Try.func9 (by kernel_rfl) rfl #[] rfl (by (try simp only [List.map_toArray, List.map_cons, List.map_nil]); first | done | rfl | (simp only [List.length_drop, List.length_take]; rfl)) ?_; (with_reducible refine (sawtoothlaw01_awake.calls  true _ A3.out).mono ?_); rintro e w57 ⟨rfl, hb⟩; refine ⟨_, rfl, ?_⟩; have n0_ := Aside0.mk (below_step (by repeat (first | (with_reducible first | exact HB.out | apply below_alloc | apply pw_below_drewN | apply below_drew1) | exact HB.out)) hb); clear HB; have HB := n0_; clear n0_; (try clear hb); (try clear hb2); (try clear hk); (try clear hi)) | ((with_reducible refine gate_callee (f := 10) rfl ?_); refine goesL_ (some 16) rfl rfl Try.func10 (by kernel_rfl) rfl #[.int .i64 a0, .int .i64 a1] rfl (by (try simp only [List.map_toArray, List.map_cons, List.map_nil]); first | done | rfl | (simp only [List.length_drop, List.length_take]; rfl)) ?_; (with_reducible refine (safe_Plus.calls a0 a1 t129 t130 _ A4.out).mono ?_); rintro e w' ⟨rfl, ⟨nd, rfl⟩⟩; refine ⟨_, rfl, ?_⟩) | ((with_reducible refine gate_callee (f := 12) rfl ?_); refine goesL_ (some 22) rfl rfl Try.func12 (by kernel_rfl) rfl #[.int .i64 a0, .int .i64 a1] rfl (by (try simp only [List.map_toArray, List.map_cons, List.map_nil]); first | done | rfl | (simp only [List.length_drop, List.length_take]; rfl)) ?_; (with_reducible refine (safe_Times.calls a0 a1 t131 t132 _ A5.out).mono ?_); rintro e w' ⟨rfl, ⟨nd, rfl⟩⟩; refine ⟨_, rfl, ?_⟩) | (go_at_call 16; (with_reducible refine (safe_Sub.calls t129 a1 t135 _ A41.out).mono ?_); rintro e w58 ⟨rfl, hb⟩; have n0_ := Aside0.mk (below_step (by repeat (first | (with_reducible first | exact HB.out | apply below_alloc | apply pw_below_drewN | apply below_drew1) | exact HB.out)) hb); clear HB; have HB := n0_; clear n0_; (try clear hb); (try clear hb2); (try clear hk); (try clear hi)) | (go_at_call 14; (with_reducible refine (safe_Add.calls a0 a1 t136 _ A43.out).mono ?_); rintro e w59 ⟨rfl, hb⟩; have n0_ := Aside0.mk (below_step (by repeat (first | (with_reducible first | exact HB.out | apply below_alloc | apply pw_below_drewN | apply below_drew1) | exact HB.out)) hb); clear HB; have HB := n0_; clear n0_; (try clear hb); (try clear hb2); (try clear hk); (try clear hi)) | (go_at_call 18; (with_reducible refine (safe_Mul.calls a0 a1 t137 _ A52.out).mono ?_); rintro e w60 ⟨rfl, hb⟩; have n0_ := Aside0.mk (below_step (by repeat (first | (with_reducible first | exact HB.out | apply below_alloc | apply pw_below_drewN | apply below_drew1) | exact HB.out)) hb); clear HB; have HB := n0_; clear n0_; (try clear hb); (try clear hb2); (try clear hk); (try clear hi)))
                        go_ret
                        exact ⟨by first | rfl | (simp [errW_none, errW_some] <;> rfl) | (simp [*, errW_none, errW_some] <;> rfl), by repeat (first | (with_reducible first | exact HB.out | apply below_alloc | apply pw_below_drewN | apply below_drew1) | exact HB.out)⟩
                      · rw [if_neg c56] at H
                        have c56b0 : (t136 == t129) = false := beq_eq_false_iff_ne.mpr c56
                        have c56b1 : (t136 != t129) = true := bne_iff_ne.mpr c56
                        exact absurd ((Option.some.inj H).trans hr_) (by simp)
                    · replace c55 := Bool.eq_false_iff.mpr c55
                      subst c55
                      have H1 : (some false) = some r := by rw [if_neg (show ¬ (false = true) by decide)] at H; exact H
                      clear H
                      have H := H1
                      clear H1
                      exact absurd ((Option.some.inj H).trans hr_) (by simp)
                  · rw [if_neg c54] at H
                    have c54b0 : (a1 == 0) = false := beq_eq_false_iff_ne.mpr c54
                    have c54b1 : (a1 != 0) = true := bne_iff_ne.mpr c54
                    by_cases c61 : (wrap64 (Int.tdiv t131 a1)) = a0
                    · rw [if_pos c61] at H
                      have c61b0 : ((wrap64 (Int.tdiv t131 a1)) == a0) = true := beq_iff_eq.mpr c61
                      have c61b1 : ((wrap64 (Int.tdiv t131 a1)) != a0) = false := bne_eq_false_iff_eq.mpr c61
                      clear c61
                      by_cases c62 : t128 = true
                      · subst c62
                        have H1 : (if t136 = t129 then (some ((Int.tmod t131 a1) == 0)) else (some false)) = some r := by rw [if_pos rfl] at H; exact H
                        clear H
                        have H := H1
                        clear H1
                        by_cases c63 : t136 = t129
                        · rw [if_pos c63] at H
                          have c63b0 : (t136 == t129) = true := beq_iff_eq.mpr c63
                          have c63b1 : (t136 != t129) = false := bne_eq_false_iff_eq.mpr c63
                          clear c63
                          obtain rfl := Option.some.inj H
                          go_enter Try.func4, Try.ntmps4
                          go_wp2_with (first | ((with_reducible refine gate_callee (f := 9) rfl ?_); refine goesL_ (some 12) rfl rfl Try.func9 (by kernel_rfl) rfl #[] rfl (by (try simp only [List.map_toArray, List.map_cons, List.map_nil]); first | done | rfl | (simp only [List.length_drop, List.length_take]; rfl)) ?_; (with_reducible refine (sawtoothlaw01_awake.calls  true _ A3.out).mono ?_); rintro e w64 ⟨rfl, hb⟩; refine ⟨_, rfl, ?_⟩; have n0_ := Aside0.mk (below_step (by repeat (first | (with_reducible first | exact HB.out | apply below_alloc | apply pw_below_drewN | apply below_drew1) | exact HB.out)) hb); clear HB; have HB := n0_; clear n0_; (try clear hb); (try clear hb2); (try clear hk); (try clear hi)) | ((with_reducible refine gate_callee (f := 10) rfl ?_); refine goesL_ (some 16) rfl rfl Try.func10 (by kernel_rfl) rfl #[.int .i64 a0, .int .i64 a1] rfl (by (try simp only [List.map_toArray, List.map_cons, List.map_nil]); first | done | rfl | (simp only [List.length_drop, List.length_take]; rfl)) ?_; (with_reducible refine (safe_Plus.calls a0 a1 t129 t130 _ A4.out).mono ?_); rintro e w' ⟨rfl, ⟨nd, rfl⟩⟩; refine ⟨_, rfl, ?_⟩) | ((with_reducible refine gate_callee (f := 12) rfl ?_); refine goesL_ (some 22) rfl rfl Try.func12 (by kernel_rfl) rfl #[.int .i64 a0, .int .i64 a1] rfl (by (try simp only [List.map_toArray, List.map_cons, List.map_nil]); first | done | rfl | (simp only [List.length_drop, List.length_take]; rfl)) ?_; (with_reducible refine (safe_Times.calls a0 a1 t131 t132 _ A5.out).mono ?_); rintro e w' ⟨rfl, ⟨nd, rfl⟩⟩; refine ⟨_, rfl, ?_⟩) | (go_at_call 16; (with_reducible refine (safe_Sub.calls t129 a1 t135 _ A41.out).mono ?_); rintro e w65 ⟨rfl, hb⟩; have n0_ := Aside0.mk (below_step (by repeat (first | (with_reducible first | exact HB.out | apply below_alloc | apply pw_below_drewN | apply below_drew1) | exact HB.out)) hb); clear HB; have HB := n0_; clear n0_; (try clear hb); (try clear hb2); (try clear hk); (try clear hi)) | (go_at_call 14; (with_reducible refine (safe_Add.calls a0 a1 t136 _ A43.out).mono ?_); rintro e w66 ⟨rfl, hb⟩; have n0_ := Aside0.mk (below_step (by repeat (first | (with_reducible first | exact HB.out | apply below_alloc | apply pw_below_drewN | apply below_drew1) | exact HB.out)) hb); clear HB; have HB := n0_; clear n0_; (try clear hb); (try clear hb2); (try clear hk); (try clear hi)) | (go_at_call 18; (with_reducible refine (safe_Mul.calls a0 a1 t137 _ A52.out).mono ?_); rintro e w67 ⟨rfl, hb⟩; have n0_ := Aside0.mk (below_step (by repeat (first | (with_reducible first | exact HB.out | apply below_alloc | apply pw_below_drewN | apply below_drew1) | exact HB.out)) hb); clear HB; have HB := n0_; clear n0_; (try clear hb); (try clear hb2); (try clear hk); (try clear hi)))
                          go_ret
                          exact ⟨by first | rfl | (simp [errW_none, errW_some] <;> rfl) | (simp [*, errW_none, errW_some] <;> rfl), by repeat (first | (with_reducible first | exact HB.out | apply below_alloc | apply pw_below_drewN | apply below_drew1) | exact HB.out)⟩
                        · rw [if_neg c63] at H
                          have c63b0 : (t136 == t129) = false := beq_eq_false_iff_ne.mpr c63
                          have c63b1 : (t136 != t129) = true := bne_iff_ne.mpr c63
                          exact absurd ((Option.some.inj H).trans hr_) (by simp)
                      · replace c62 := Bool.eq_false_iff.mpr c62
                        subst c62
                        have H1 : (some false) = some r := by rw [if_neg (show ¬ (false = true) by decide)] at H; exact H
                        clear H
                        have H := H1
                        clear H1
                        exact absurd ((Option.some.inj H).trans hr_) (by simp)
                    · rw [if_neg c61] at H
                      have c61b0 : ((wrap64 (Int.tdiv t131 a1)) == a0) = false := beq_eq_false_iff_ne.mpr c61
                      have c61b1 : ((wrap64 (Int.tdiv t131 a1)) != a0) = true := bne_iff_ne.mpr c61
                      by_cases c68 : t128 = true
                      · subst c68
                        have H1 : (if t136 = t129 then (some false) else (some false)) = some r := by rw [if_pos rfl] at H; exact H
                        clear H
                        have H := H1
                        clear H1
                        by_cases c69 : t136 = t129
                        · rw [if_pos c69] at H
                          have c69b0 : (t136 == t129) = true := beq_iff_eq.mpr c69
                          have c69b1 : (t136 != t129) = false := bne_eq_false_iff_eq.mpr c69
                          clear c69
                          exact absurd ((Option.some.inj H).trans hr_) (by simp)
                        · rw [if_neg c69] at H
                          have c69b0 : (t136 == t129) = false := beq_eq_false_iff_ne.mpr c69
                          have c69b1 : (t136 != t129) = true := bne_iff_ne.mpr c69
                          exact absurd ((Option.some.inj H).trans hr_) (by simp)
                      · replace c68 := Bool.eq_false_iff.mpr c68
                        subst c68
                        have H1 : (some false) = some r := by rw [if_neg (show ¬ (false = true) by decide)] at H; exact H
                        clear H
                        have H := H1
                        clear H1
                        exact absurd ((Option.some.inj H).trans hr_) (by simp)
                · rw [if_neg c53] at H
                  have c53b0 : (t137 == t131) = false := beq_eq_false_iff_ne.mpr c53
                  have c53b1 : (t137 != t131) = true := bne_iff_ne.mpr c53
                  by_cases c70 : t128 = true
                  · subst c70
                    have H1 : (if t136 = t129 then (some false) else (some false)) = some r := by rw [if_pos rfl] at H; exact H
                    clear H
                    have H := H1
                    clear H1
                    by_cases c71 : t136 = t129
                    · rw [if_pos c71] at H
                      have c71b0 : (t136 == t129) = true := beq_iff_eq.mpr c71
                      have c71b1 : (t136 != t129) = false := bne_eq_false_iff_eq.mpr c71
                      clear c71
                      exact absurd ((Option.some.inj H).trans hr_) (by simp)
                    · rw [if_neg c71] at H
                      have c71b0 : (t136 == t129) = false := beq_eq_false_iff_ne.mpr c71
                      have c71b1 : (t136 != t129) = true := bne_iff_ne.mpr c71
                      exact absurd ((Option.some.inj H).trans hr_) (by simp)
                  · replace c70 := Bool.eq_false_iff.mpr c70
                    subst c70
                    have H1 : (some false) = some r := by rw [if_neg (show ¬ (false = true) by decide)] at H; exact H
                    clear H
                    have H := H1
                    clear H1
                    exact absurd ((Option.some.inj H).trans hr_) (by simp)
              · rw [if_neg c51] at H
                have c51b0 : (t132 == 0) = false := beq_eq_false_iff_ne.mpr c51
                have c51b1 : (t132 != 0) = true := bne_iff_ne.mpr c51
                by_cases c72 : t128 = true
                · subst c72
                  have H1 : (if t136 = t129 then (some false) else (some false)) = some r := by rw [if_pos rfl] at H; exact H
                  clear H
                  have H := H1
                  clear H1
                  by_cases c73 : t136 = t129
                  · rw [if_pos c73] at H
                    have c73b0 : (t136 == t129) = true := beq_iff_eq.mpr c73
                    have c73b1 : (t136 != t129) = false := bne_eq_false_iff_eq.mpr c73
                    clear c73
                    exact absurd ((Option.some.inj H).trans hr_) (by simp)
                  · rw [if_neg c73] at H
                    have c73b0 : (t136 == t129) = false := beq_eq_false_iff_ne.mpr c73
                    have c73b1 : (t136 != t129) = true := bne_iff_ne.mpr c73
                    exact absurd ((Option.some.inj H).trans hr_) (by simp)
                · replace c72 := Bool.eq_false_iff.mpr c72
                  subst c72
                  have H1 : (some false) = some r := by rw [if_neg (show ¬ (false = true) by decide)] at H; exact H
                  clear H
                  have H := H1
                  clear H1
                  exact absurd ((Option.some.inj H).trans hr_) (by simp)
          · rw [if_neg c44] at H
            have c44b0 : (t132 == 10) = false := beq_eq_false_iff_ne.mpr c44
            have c44b1 : (t132 != 10) = true := bne_iff_ne.mpr c44
            by_cases c74 : t132 = 0
            · rw [if_pos c74] at H
              have c74b0 : (t132 == 0) = true := beq_iff_eq.mpr c74
              have c74b1 : (t132 != 0) = false := bne_eq_false_iff_eq.mpr c74
              clear c74
              replace H := Option.bind_eq_some_iff.mp H
              obtain ⟨t138, A750, H⟩ := H
              replace H : (if t138 = t131 then (if a1 = 0 then (if t128 = true then (if t136 = t129 then (some true) else (some false)) else (some false)) else (if (wrap64 (Int.tdiv t131 a1)) = a0 then (if t128 = true then (if t136 = t129 then (some ((Int.tmod t131 a1) == 0)) else (some false)) else (some false)) else (if t128 = true then (if t136 = t129 then (some false) else (some false)) else (some false)))) else (if t128 = true then (if t136 = t129 then (some false) else (some false)) else (some false))) = some r := H
              have A75 := Aside0.mk A750
              clear A750
              by_cases c76 : t138 = t131
              · rw [if_pos c76] at H
                have c76b0 : (t138 == t131) = true := beq_iff_eq.mpr c76
                have c76b1 : (t138 != t131) = false := bne_eq_false_iff_eq.mpr c76
                clear c76
                by_cases c77 : a1 = 0
                · rw [if_pos c77] at H
                  have c77b0 : (a1 == 0) = true := beq_iff_eq.mpr c77
                  have c77b1 : (a1 != 0) = false := bne_eq_false_iff_eq.mpr c77
                  clear c77
                  by_cases c78 : t128 = true
                  · subst c78
                    have H1 : (if t136 = t129 then (some true) else (some false)) = some r := by rw [if_pos rfl] at H; exact H
                    clear H
                    have H := H1
                    clear H1
                    by_cases c79 : t136 = t129
                    · rw [if_pos c79] at H
                      have c79b0 : (t136 == t129) = true := beq_iff_eq.mpr c79
                      have c79b1 : (t136 != t129) = false := bne_eq_false_iff_eq.mpr c79
                      clear c79
                      obtain rfl := Option.some.inj H
                      go_enter Try.func4, Try.ntmps4
                      go_wp2_with (first | ((with_reducible refine gate_callee (f := 9) rfl ?_); refine goesL_ (some 12) rfl rfl Try.func9 (by kernel_rfl) rfl #[] rfl (by (try simp only [List.map_toArray, List.map_cons, List.map_nil]); first | done | rfl | (simp only [List.length_drop, List.length_take]; rfl)) ?_; (with_reducible refine (sawtoothlaw01_awake.calls  true _ A3.out).mono ?_); rintro e w80 ⟨rfl, hb⟩; refine ⟨_, rfl, ?_⟩; have n0_ := Aside0.mk (below_step (by repeat (first | (with_reducible first | exact HB.out | apply below_alloc | apply pw_below_drewN | apply below_drew1) | exact HB.out)) hb); clear HB; have HB := n0_; clear n0_; (try clear hb); (try clear hb2); (try clear hk); (try clear hi)) | ((with_reducible refine gate_callee (f := 10) rfl ?_); refine goesL_ (some 16) rfl rfl Try.func10 (by kernel_rfl) rfl #[.int .i64 a0, .int .i64 a1] rfl (by (try simp only [List.map_toArray, List.map_cons, List.map_nil]); first | done | rfl | (simp only [List.length_drop, List.length_take]; rfl)) ?_; (with_reducible refine (safe_Plus.calls a0 a1 t129 t130 _ A4.out).mono ?_); rintro e w' ⟨rfl, ⟨nd, rfl⟩⟩; refine ⟨_, rfl, ?_⟩) | ((with_reducible refine gate_callee (f := 12) rfl ?_); refine goesL_ (some 22) rfl rfl Try.func12 (by kernel_rfl) rfl #[.int .i64 a0, .int .i64 a1] rfl (by (try simp only [List.map_toArray, List.map_cons, List.map_nil]); first | done | rfl | (simp only [List.length_drop, List.length_take]; rfl)) ?_; (with_reducible refine (safe_Times.calls a0 a1 t131 t132 _ A5.out).mono ?_); rintro e w' ⟨rfl, ⟨nd, rfl⟩⟩; refine ⟨_, rfl, ?_⟩) | (go_at_call 16; (with_reducible refine (safe_Sub.calls t129 a1 t135 _ A41.out).mono ?_); rintro e w81 ⟨rfl, hb⟩; have n0_ := Aside0.mk (below_step (by repeat (first | (with_reducible first | exact HB.out | apply below_alloc | apply pw_below_drewN | apply below_drew1) | exact HB.out)) hb); clear HB; have HB := n0_; clear n0_; (try clear hb); (try clear hb2); (try clear hk); (try clear hi)) | (go_at_call 14; (with_reducible refine (safe_Add.calls a0 a1 t136 _ A43.out).mono ?_); rintro e w82 ⟨rfl, hb⟩; have n0_ := Aside0.mk (below_step (by repeat (first | (with_reducible first | exact HB.out | apply below_alloc | apply pw_below_drewN | apply below_drew1) | exact HB.out)) hb); clear HB; have HB := n0_; clear n0_; (try clear hb); (try clear hb2); (try clear hk); (try clear hi)) | (go_at_call 18; (with_reducible refine (safe_Mul.calls a0 a1 t138 _ A75.out).mono ?_); rintro e w83 ⟨rfl, hb⟩; have n0_ := Aside0.mk (below_step (by repeat (first | (with_reducible first | exact HB.out | apply below_alloc | apply pw_below_drewN | apply below_drew1) | exact HB.out)) hb); clear HB; have HB := n0_; clear n0_; (try clear hb); (try clear hb2); (try clear hk); (try clear hi)))
                      go_ret
                      exact ⟨by first | rfl | (simp [errW_none, errW_some] <;> rfl) | (simp [*, errW_none, errW_some] <;> rfl), by repeat (first | (with_reducible first | exact HB.out | apply below_alloc | apply pw_below_drewN | apply below_drew1) | exact HB.out)⟩
                    · rw [if_neg c79] at H
                      have c79b0 : (t136 == t129) = false := beq_eq_false_iff_ne.mpr c79
                      have c79b1 : (t136 != t129) = true := bne_iff_ne.mpr c79
                      exact absurd ((Option.some.inj H).trans hr_) (by simp)
                  · replace c78 := Bool.eq_false_iff.mpr c78
                    subst c78
                    have H1 : (some false) = some r := by rw [if_neg (show ¬ (false = true) by decide)] at H; exact H
                    clear H
                    have H := H1
                    clear H1
                    exact absurd ((Option.some.inj H).trans hr_) (by simp)
                · rw [if_neg c77] at H
                  have c77b0 : (a1 == 0) = false := beq_eq_false_iff_ne.mpr c77
                  have c77b1 : (a1 != 0) = true := bne_iff_ne.mpr c77
                  by_cases c84 : (wrap64 (Int.tdiv t131 a1)) = a0
                  · rw [if_pos c84] at H
                    have c84b0 : ((wrap64 (Int.tdiv t131 a1)) == a0) = true := beq_iff_eq.mpr c84
                    have c84b1 : ((wrap64 (Int.tdiv t131 a1)) != a0) = false := bne_eq_false_iff_eq.mpr c84
                    clear c84
                    by_cases c85 : t128 = true
                    · subst c85
                      have H1 : (if t136 = t129 then (some ((Int.tmod t131 a1) == 0)) else (some false)) = some r := by rw [if_pos rfl] at H; exact H
                      clear H
                      have H := H1
                      clear H1
                      by_cases c86 : t136 = t129
                      · rw [if_pos c86] at H
                        have c86b0 : (t136 == t129) = true := beq_iff_eq.mpr c86
                        have c86b1 : (t136 != t129) = false := bne_eq_false_iff_eq.mpr c86
                        clear c86
                        obtain rfl := Option.some.inj H
                        go_enter Try.func4, Try.ntmps4
                        go_wp2_with (first | ((with_reducible refine gate_callee (f := 9) rfl ?_); refine goesL_ (some 12) rfl rfl Try.func9 (by kernel_rfl) rfl #[] rfl (by (try simp only [List.map_toArray, List.map_cons, List.map_nil]); first | done | rfl | (simp only [List.length_drop, List.length_take]; rfl)) ?_; (with_reducible refine (sawtoothlaw01_awake.calls  true _ A3.out).mono ?_); rintro e w87 ⟨rfl, hb⟩; refine ⟨_, rfl, ?_⟩; have n0_ := Aside0.mk (below_step (by repeat (first | (with_reducible first | exact HB.out | apply below_alloc | apply pw_below_drewN | apply below_drew1) | exact HB.out)) hb); clear HB; have HB := n0_; clear n0_; (try clear hb); (try clear hb2); (try clear hk); (try clear hi)) | ((with_reducible refine gate_callee (f := 10) rfl ?_); refine goesL_ (some 16) rfl rfl Try.func10 (by kernel_rfl) rfl #[.int .i64 a0, .int .i64 a1] rfl (by (try simp only [List.map_toArray, List.map_cons, List.map_nil]); first | done | rfl | (simp only [List.length_drop, List.length_take]; rfl)) ?_; (with_reducible refine (safe_Plus.calls a0 a1 t129 t130 _ A4.out).mono ?_); rintro e w' ⟨rfl, ⟨nd, rfl⟩⟩; refine ⟨_, rfl, ?_⟩) | ((with_reducible refine gate_callee (f := 12) rfl ?_); refine goesL_ (some 22) rfl rfl Try.func12 (by kernel_rfl) rfl #[.int .i64 a0, .int .i64 a1] rfl (by (try simp only [List.map_toArray, List.map_cons, List.map_nil]); first | done | rfl | (simp only [List.length_drop, List.length_take]; rfl)) ?_; (with_reducible refine (safe_Times.calls a0 a1 t131 t132 _ A5.out).mono ?_); rintro e w' ⟨rfl, ⟨nd, rfl⟩⟩; refine ⟨_, rfl, ?_⟩) | (go_at_call 16; (with_reducible refine (safe_Sub.calls t129 a1 t135 _ A41.out).mono ?_); rintro e w88 ⟨rfl, hb⟩; have n0_ := Aside0.mk (below_step (by repeat (first | (with_reducible first | exact HB.out | apply below_alloc | apply pw_below_drewN | apply below_drew1) | exact HB.out)) hb); clear HB; have HB := n0_; clear n0_; (try clear hb); (try clear hb2); (try clear hk); (try clear hi)) | (go_at_call 14; (with_reducible refine (safe_Add.calls a0 a1 t136 _ A43.out).mono ?_); rintro e w89 ⟨rfl, hb⟩; have n0_ := Aside0.mk (below_step (by repeat (first | (with_reducible first | exact HB.out | apply below_alloc | apply pw_below_drewN | apply below_drew1) | exact HB.out)) hb); clear HB; have HB := n0_; clear n0_; (try clear hb); (try clear hb2); (try clear hk); (try clear hi)) | (go_at_call 18; (with_reducible refine (safe_Mul.calls a0 a1 t138 _ A75.out).mono ?_); rintro e w90 ⟨rfl, hb⟩; have n0_ := Aside0.mk (below_step (by repeat (first | (with_reducible first | exact HB.out | apply below_alloc | apply pw_below_drewN | apply below_drew1) | exact HB.out)) hb); clear HB; have HB := n0_; clear n0_; (try clear hb); (try clear hb2); (try clear hk); (try clear hi)))
                        go_ret
                        exact ⟨by first | rfl | (simp [errW_none, errW_some] <;> rfl) | (simp [*, errW_none, errW_some] <;> rfl), by repeat (first | (with_reducible first | exact HB.out | apply below_alloc | apply pw_below_drewN | apply below_drew1) | exact HB.out)⟩
                      · rw [if_neg c86] at H
                        have c86b0 : (t136 == t129) = false := beq_eq_false_iff_ne.mpr c86
                        have c86b1 : (t136 != t129) = true := bne_iff_ne.mpr c86
                        exact absurd ((Option.some.inj H).trans hr_) (by simp)
                    · replace c85 := Bool.eq_false_iff.mpr c85
                      subst c85
                      have H1 : (some false) = some r := by rw [if_neg (show ¬ (false = true) by decide)] at H; exact H
                      clear H
                      have H := H1
                      clear H1
                      exact absurd ((Option.some.inj H).trans hr_) (by simp)
                  · rw [if_neg c84] at H
                    have c84b0 : ((wrap64 (Int.tdiv t131 a1)) == a0) = false := beq_eq_false_iff_ne.mpr c84
                    have c84b1 : ((wrap64 (Int.tdiv t131 a1)) != a0) = true := bne_iff_ne.mpr c84
                    by_cases c91 : t128 = true
                    · subst c91
                      have H1 : (if t136 = t129 then (some false) else (some false)) = some r := by rw [if_pos rfl] at H; exact H
                      clear H
                      have H := H1
                      clear H1
                      by_cases c92 : t136 = t129
                      · rw [if_pos c92] at H
                        have c92b0 : (t136 == t129) = true := beq_iff_eq.mpr c92
                        have c92b1 : (t136 != t129) = false := bne_eq_false_iff_eq.mpr c92
                        clear c92
                        exact absurd ((Option.some.inj H).trans hr_) (by simp)
                      · rw [if_neg c92] at H
                        have c92b0 : (t136 == t129) = false := beq_eq_false_iff_ne.mpr c92
                        have c92b1 : (t136 != t129) = true := bne_iff_ne.mpr c92
                        exact absurd ((Option.some.inj H).trans hr_) (by simp)
                    · replace c91 := Bool.eq_false_iff.mpr c91
                      subst c91
                      have H1 : (some false) = some r := by rw [if_neg (show ¬ (false = true) by decide)] at H; exact H
                      clear H
                      have H := H1
                      clear H1
                      exact absurd ((Option.some.inj H).trans hr_) (by simp)
              · rw [if_neg c76] at H
                have c76b0 : (t138 == t131) = false := beq_eq_false_iff_ne.mpr c76
                have c76b1 : (t138 != t131) = true := bne_iff_ne.mpr c76
                by_cases c93 : t128 = true
                · subst c93
                  have H1 : (if t136 = t129 then (some false) else (some false)) = some r := by rw [if_pos rfl] at H; exact H
                  clear H
                  have H := H1
                  clear H1
                  by_cases c94 : t136 = t129
                  · rw [if_pos c94] at H
                    have c94b0 : (t136 == t129) = true := beq_iff_eq.mpr c94
                    have c94b1 : (t136 != t129) = false := bne_eq_false_iff_eq.mpr c94
                    clear c94
                    exact absurd ((Option.some.inj H).trans hr_) (by simp)
                  · rw [if_neg c94] at H
                    have c94b0 : (t136 == t129) = false := beq_eq_false_iff_ne.mpr c94
                    have c94b1 : (t136 != t129) = true := bne_iff_ne.mpr c94
                    exact absurd ((Option.some.inj H).trans hr_) (by simp)
                · replace c93 := Bool.eq_false_iff.mpr c93
                  subst c93
                  have H1 : (some false) = some r := by rw [if_neg (show ¬ (false = true) by decide)] at H; exact H
                  clear H
                  have H := H1
                  clear H1
                  exact absurd ((Option.some.inj H).trans hr_) (by simp)
            · rw [if_neg c74] at H
              have c74b0 : (t132 == 0) = false := beq_eq_false_iff_ne.mpr c74
              have c74b1 : (t132 != 0) = true := bne_iff_ne.mpr c74
              by_cases c95 : t128 = true
              · subst c95
                have H1 : (if t136 = t129 then (some false) else (some false)) = some r := by rw [if_pos rfl] at H; exact H
                clear H
                have H := H1
                clear H1
                by_cases c96 : t136 = t129
                · rw [if_pos c96] at H
                  have c96b0 : (t136 == t129) = true := beq_iff_eq.mpr c96
                  have c96b1 : (t136 != t129) = false := bne_eq_false_iff_eq.mpr c96
                  clear c96
                  exact absurd ((Option.some.inj H).trans hr_) (by simp)
                · rw [if_neg c96] at H
                  have c96b0 : (t136 == t129) = false := beq_eq_false_iff_ne.mpr c96
                  have c96b1 : (t136 != t129) = true := bne_iff_ne.mpr c96
                  exact absurd ((Option.some.inj H).trans hr_) (by simp)
              · replace c95 := Bool.eq_false_iff.mpr c95
                subst c95
                have H1 : (some false) = some r := by rw [if_neg (show ¬ (false = true) by decide)] at H; exact H
                clear H
                have H := H1
                clear H1
                exact absurd ((Option.some.inj H).trans hr_) (by simp)
        · rw [if_neg c42] at H
          have c42b0 : (t135 == a0) = false := beq_eq_false_iff_ne.mpr c42
          have c42b1 : (t135 != a0) = true := bne_iff_ne.mpr c42
          by_cases c97 : t132 = 10
          · rw [if_pos c97] at H
            have c97b0 : (t132 == 10) = true := beq_iff_eq.mpr c97
            have c97b1 : (t132 != 10) = false := bne_eq_false_iff_eq.mpr c97
            clear c97
            by_cases c98 : t131 = 0
            · rw [if_pos c98] at H
              have c98b0 : (t131 == 0) = true := beq_iff_eq.mpr c98
              have c98b1 : (t131 != 0) = false := bne_eq_false_iff_eq.mpr c98
              clear c98
              by_cases c99 : t128 = true
              · subst c99
                have H1 : (some false) = some r := by rw [if_pos rfl] at H; exact H
                clear H
                have H := H1
                clear H1
                exact absurd ((Option.some.inj H).trans hr_) (by simp)
              · replace c99 := Bool.eq_false_iff.mpr c99
                subst c99
                have H1 : (some false) = some r := by rw [if_neg (show ¬ (false = true) by decide)] at H; exact H
                clear H
                have H := H1
                clear H1
                exact absurd ((Option.some.inj H).trans hr_) (by simp)
            · rw [if_neg c98] at H
              have c98b0 : (t131 == 0) = false := beq_eq_false_iff_ne.mpr c98
              have c98b1 : (t131 != 0) = true := bne_iff_ne.mpr c98
              by_cases c100 : t132 = 0
              · rw [if_pos c100] at H
                have c100b0 : (t132 == 0) = true := beq_iff_eq.mpr c100
                have c100b1 : (t132 != 0) = false := bne_eq_false_iff_eq.mpr c100
                clear c100
                replace H := Option.bind_eq_some_iff.mp H
                obtain ⟨t139, A1010, H⟩ := H
                replace H : (if t139 = t131 then (if a1 = 0 then (if t128 = true then (some false) else (some false)) else (if (wrap64 (Int.tdiv t131 a1)) = a0 then (if t128 = true then (some false) else (some false)) else (if t128 = true then (some false) else (some false)))) else (if t128 = true then (some false) else (some false))) = some r := H
                have A101 := Aside0.mk A1010
                clear A1010
                by_cases c102 : t139 = t131
                · rw [if_pos c102] at H
                  have c102b0 : (t139 == t131) = true := beq_iff_eq.mpr c102
                  have c102b1 : (t139 != t131) = false := bne_eq_false_iff_eq.mpr c102
                  clear c102
                  by_cases c103 : a1 = 0
                  · rw [if_pos c103] at H
                    have c103b0 : (a1 == 0) = true := beq_iff_eq.mpr c103
                    have c103b1 : (a1 != 0) = false := bne_eq_false_iff_eq.mpr c103
                    clear c103
                    by_cases c104 : t128 = true
                    · subst c104
                      have H1 : (some false) = some r := by rw [if_pos rfl] at H; exact H
                      clear H
                      have H := H1
                      clear H1
                      exact absurd ((Option.some.inj H).trans hr_) (by simp)
                    · replace c104 := Bool.eq_false_iff.mpr c104
                      subst c104
                      have H1 : (some false) = some r := by rw [if_neg (show ¬ (false = true) by decide)] at H; exact H
                      clear H
                      have H := H1
                      clear H1
                      exact absurd ((Option.some.inj H).trans hr_) (by simp)
                  · rw [if_neg c103] at H
                    have c103b0 : (a1 == 0) = false := beq_eq_false_iff_ne.mpr c103
                    have c103b1 : (a1 != 0) = true := bne_iff_ne.mpr c103
                    by_cases c105 : (wrap64 (Int.tdiv t131 a1)) = a0
                    · rw [if_pos c105] at H
                      have c105b0 : ((wrap64 (Int.tdiv t131 a1)) == a0) = true := beq_iff_eq.mpr c105
                      have c105b1 : ((wrap64 (Int.tdiv t131 a1)) != a0) = false := bne_eq_false_iff_eq.mpr c105
                      clear c105
                      by_cases c106 : t128 = true
                      · subst c106
                        have H1 : (some false) = some r := by rw [if_pos rfl] at H; exact H
                        clear H
                        have H := H1
                        clear H1
                        exact absurd ((Option.some.inj H).trans hr_) (by simp)
                      · replace c106 := Bool.eq_false_iff.mpr c106
                        subst c106
                        have H1 : (some false) = some r := by rw [if_neg (show ¬ (false = true) by decide)] at H; exact H
                        clear H
                        have H := H1
                        clear H1
                        exact absurd ((Option.some.inj H).trans hr_) (by simp)
                    · rw [if_neg c105] at H
                      have c105b0 : ((wrap64 (Int.tdiv t131 a1)) == a0) = false := beq_eq_false_iff_ne.mpr c105
                      have c105b1 : ((wrap64 (Int.tdiv t131 a1)) != a0) = true := bne_iff_ne.mpr c105
                      by_cases c107 : t128 = true
                      · subst c107
                        have H1 : (some false) = some r := by rw [if_pos rfl] at H; exact H
                        clear H
                        have H := H1
                        clear H1
                        exact absurd ((Option.some.inj H).trans hr_) (by simp)
                      · replace c107 := Bool.eq_false_iff.mpr c107
                        subst c107
                        have H1 : (some false) = some r := by rw [if_neg (show ¬ (false = true) by decide)] at H; exact H
                        clear H
                        have H := H1
                        clear H1
                        exact absurd ((Option.some.inj H).trans hr_) (by simp)
                · rw [if_neg c102] at H
                  have c102b0 : (t139 == t131) = false := beq_eq_false_iff_ne.mpr c102
                  have c102b1 : (t139 != t131) = true := bne_iff_ne.mpr c102
                  by_cases c108 : t128 = true
                  · subst c108
                    have H1 : (some false) = some r := by rw [if_pos rfl] at H; exact H
                    clear H
                    have H := H1
                    clear H1
                    exact absurd ((Option.some.inj H).trans hr_) (by simp)
                  · replace c108 := Bool.eq_false_iff.mpr c108
                    subst c108
                    have H1 : (some false) = some r := by rw [if_neg (show ¬ (false = true) by decide)] at H; exact H
                    clear H
                    have H := H1
                    clear H1
                    exact absurd ((Option.some.inj H).trans hr_) (by simp)
              · rw [if_neg c100] at H
                have c100b0 : (t132 == 0) = false := beq_eq_false_iff_ne.mpr c100
                have c100b1 : (t132 != 0) = true := bne_iff_ne.mpr c100
                by_cases c109 : t128 = true
                · subst c109
                  have H1 : (some false) = some r := by rw [if_pos rfl] at H; exact H
                  clear H
                  have H := H1
                  clear H1
                  exact absurd ((Option.some.inj H).trans hr_) (by simp)
                · replace c109 := Bool.eq_false_iff.mpr c109
                  subst c109
                  have H1 : (some false) = some r := by rw [if_neg (show ¬ (false = true) by decide)] at H; exact H
                  clear H
                  have H := H1
                  clear H1
                  exact absurd ((Option.some.inj H).trans hr_) (by simp)
          · rw [if_neg c97] at H
            have c97b0 : (t132 == 10) = false := beq_eq_false_iff_ne.mpr c97
            have c97b1 : (t132 != 10) = true := bne_iff_ne.mpr c97
            by_cases c110 : t132 = 0
            · rw [if_pos c110] at H
              have c110b0 : (t132 == 0) = true := beq_iff_eq.mpr c110
              have c110b1 : (t132 != 0) = false := bne_eq_false_iff_eq.mpr c110
              clear c110
              replace H := Option.bind_eq_some_iff.mp H
              obtain ⟨t140, A1110, H⟩ := H
              replace H : (if t140 = t131 then (if a1 = 0 then (if t128 = true then (some false) else (some false)) else (if (wrap64 (Int.tdiv t131 a1)) = a0 then (if t128 = true then (some false) else (some false)) else (if t128 = true then (some false) else (some false)))) else (if t128 = true then (some false) else (some false))) = some r := H
              have A111 := Aside0.mk A1110
              clear A1110
              by_cases c112 : t140 = t131
              · rw [if_pos c112] at H
                have c112b0 : (t140 == t131) = true := beq_iff_eq.mpr c112
                have c112b1 : (t140 != t131) = false := bne_eq_false_iff_eq.mpr c112
                clear c112
                by_cases c113 : a1 = 0
                · rw [if_pos c113] at H
                  have c113b0 : (a1 == 0) = true := beq_iff_eq.mpr c113
                  have c113b1 : (a1 != 0) = false := bne_eq_false_iff_eq.mpr c113
                  clear c113
                  by_cases c114 : t128 = true
                  · subst c114
                    have H1 : (some false) = some r := by rw [if_pos rfl] at H; exact H
                    clear H
                    have H := H1
                    clear H1
                    exact absurd ((Option.some.inj H).trans hr_) (by simp)
                  · replace c114 := Bool.eq_false_iff.mpr c114
                    subst c114
                    have H1 : (some false) = some r := by rw [if_neg (show ¬ (false = true) by decide)] at H; exact H
                    clear H
                    have H := H1
                    clear H1
                    exact absurd ((Option.some.inj H).trans hr_) (by simp)
                · rw [if_neg c113] at H
                  have c113b0 : (a1 == 0) = false := beq_eq_false_iff_ne.mpr c113
                  have c113b1 : (a1 != 0) = true := bne_iff_ne.mpr c113
                  by_cases c115 : (wrap64 (Int.tdiv t131 a1)) = a0
                  · rw [if_pos c115] at H
                    have c115b0 : ((wrap64 (Int.tdiv t131 a1)) == a0) = true := beq_iff_eq.mpr c115
                    have c115b1 : ((wrap64 (Int.tdiv t131 a1)) != a0) = false := bne_eq_false_iff_eq.mpr c115
                    clear c115
                    by_cases c116 : t128 = true
                    · subst c116
                      have H1 : (some false) = some r := by rw [if_pos rfl] at H; exact H
                      clear H
                      have H := H1
                      clear H1
                      exact absurd ((Option.some.inj H).trans hr_) (by simp)
                    · replace c116 := Bool.eq_false_iff.mpr c116
                      subst c116
                      have H1 : (some false) = some r := by rw [if_neg (show ¬ (false = true) by decide)] at H; exact H
                      clear H
                      have H := H1
                      clear H1
                      exact absurd ((Option.some.inj H).trans hr_) (by simp)
                  · rw [if_neg c115] at H
                    have c115b0 : ((wrap64 (Int.tdiv t131 a1)) == a0) = false := beq_eq_false_iff_ne.mpr c115
                    have c115b1 : ((wrap64 (Int.tdiv t131 a1)) != a0) = true := bne_iff_ne.mpr c115
                    by_cases c117 : t128 = true
                    · subst c117
                      have H1 : (some false) = some r := by rw [if_pos rfl] at H; exact H
                      clear H
                      have H := H1
                      clear H1
                      exact absurd ((Option.some.inj H).trans hr_) (by simp)
                    · replace c117 := Bool.eq_false_iff.mpr c117
                      subst c117
                      have H1 : (some false) = some r := by rw [if_neg (show ¬ (false = true) by decide)] at H; exact H
                      clear H
                      have H := H1
                      clear H1
                      exact absurd ((Option.some.inj H).trans hr_) (by simp)
              · rw [if_neg c112] at H
                have c112b0 : (t140 == t131) = false := beq_eq_false_iff_ne.mpr c112
                have c112b1 : (t140 != t131) = true := bne_iff_ne.mpr c112
                by_cases c118 : t128 = true
                · subst c118
                  have H1 : (some false) = some r := by rw [if_pos rfl] at H; exact H
                  clear H
                  have H := H1
                  clear H1
                  exact absurd ((Option.some.inj H).trans hr_) (by simp)
                · replace c118 := Bool.eq_false_iff.mpr c118
                  subst c118
                  have H1 : (some false) = some r := by rw [if_neg (show ¬ (false = true) by decide)] at H; exact H
                  clear H
                  have H := H1
                  clear H1
                  exact absurd ((Option.some.inj H).trans hr_) (by simp)
            · rw [if_neg c110] at H
              have c110b0 : (t132 == 0) = false := beq_eq_false_iff_ne.mpr c110
              have c110b1 : (t132 != 0) = true := bne_iff_ne.mpr c110
              by_cases c119 : t128 = true
              · subst c119
                have H1 : (some false) = some r := by rw [if_pos rfl] at H; exact H
                clear H
                have H := H1
                clear H1
                exact absurd ((Option.some.inj H).trans hr_) (by simp)
              · replace c119 := Bool.eq_false_iff.mpr c119
                subst c119
                have H1 : (some false) = some r := by rw [if_neg (show ¬ (false = true) by decide)] at H; exact H
                clear H
                have H := H1
                clear H1
                exact absurd ((Option.some.inj H).trans hr_) (by simp)
      · rw [if_neg c40] at H
        have c40b0 : (t130 == 0) = false := beq_eq_false_iff_ne.mpr c40
        have c40b1 : (t130 != 0) = true := bne_iff_ne.mpr c40
        by_cases c120 : t132 = 10
        · rw [if_pos c120] at H
          have c120b0 : (t132 == 10) = true := beq_iff_eq.mpr c120
          have c120b1 : (t132 != 10) = false := bne_eq_false_iff_eq.mpr c120
          clear c120
          by_cases c121 : t131 = 0
          · rw [if_pos c121] at H
            have c121b0 : (t131 == 0) = true := beq_iff_eq.mpr c121
            have c121b1 : (t131 != 0) = false := bne_eq_false_iff_eq.mpr c121
            clear c121
            by_cases c122 : t128 = true
            · subst c122
              have H1 : (some false) = some r := by rw [if_pos rfl] at H; exact H
              clear H
              have H := H1
              clear H1
              exact absurd ((Option.some.inj H).trans hr_) (by simp)
            · replace c122 := Bool.eq_false_iff.mpr c122
              subst c122
              have H1 : (some false) = some r := by rw [if_neg (show ¬ (false = true) by decide)] at H; exact H
              clear H
              have H := H1
              clear H1
              exact absurd ((Option.some.inj H).trans hr_) (by simp)
          · rw [if_neg c121] at H
            have c121b0 : (t131 == 0) = false := beq_eq_false_iff_ne.mpr c121
            have c121b1 : (t131 != 0) = true := bne_iff_ne.mpr c121
            by_cases c123 : t132 = 0
            · rw [if_pos c123] at H
              have c123b0 : (t132 == 0) = true := beq_iff_eq.mpr c123
              have c123b1 : (t132 != 0) = false := bne_eq_false_iff_eq.mpr c123
              clear c123
              replace H := Option.bind_eq_some_iff.mp H
              obtain ⟨t141, A1240, H⟩ := H
              replace H : (if t141 = t131 then (if a1 = 0 then (if t128 = true then (some false) else (some false)) else (if (wrap64 (Int.tdiv t131 a1)) = a0 then (if t128 = true then (some false) else (some false)) else (if t128 = true then (some false) else (some false)))) else (if t128 = true then (some false) else (some false))) = some r := H
              have A124 := Aside0.mk A1240
              clear A1240
              by_cases c125 : t141 = t131
              · rw [if_pos c125] at H
                have c125b0 : (t141 == t131) = true := beq_iff_eq.mpr c125
                have c125b1 : (t141 != t131) = false := bne_eq_false_iff_eq.mpr c125
                clear c125
                by_cases c126 : a1 = 0
                · rw [if_pos c126] at H
                  have c126b0 : (a1 == 0) = true := beq_iff_eq.mpr c126
                  have c126b1 : (a1 != 0) = false := bne_eq_false_iff_eq.mpr c126
                  clear c126
                  by_cases c127 : t128 = true
                  · subst c127
                    have H1 : (some false) = some r := by rw [if_pos rfl] at H; exact H
                    clear H
                    have H := H1
                    clear H1
                    exact absurd ((Option.some.inj H).trans hr_) (by simp)
                  · replace c127 := Bool.eq_false_iff.mpr c127
                    subst c127
                    have H1 : (some false) = some r := by rw [if_neg (show ¬ (false = true) by decide)] at H; exact H
                    clear H
                    have H := H1
                    clear H1
                    exact absurd ((Option.some.inj H).trans hr_) (by simp)
                · rw [if_neg c126] at H
                  have c126b0 : (a1 == 0) = false := beq_eq_false_iff_ne.mpr c126
                  have c126b1 : (a1 != 0) = true := bne_iff_ne.mpr c126
                  by_cases c128 : (wrap64 (Int.tdiv t131 a1)) = a0
                  · rw [if_pos c128] at H
                    have c128b0 : ((wrap64 (Int.tdiv t131 a1)) == a0) = true := beq_iff_eq.mpr c128
                    have c128b1 : ((wrap64 (Int.tdiv t131 a1)) != a0) = false := bne_eq_false_iff_eq.mpr c128
                    clear c128
                    by_cases c129 : t128 = true
                    · subst c129
                      have H1 : (some false) = some r := by rw [if_pos rfl] at H; exact H
                      clear H
                      have H := H1
                      clear H1
                      exact absurd ((Option.some.inj H).trans hr_) (by simp)
                    · replace c129 := Bool.eq_false_iff.mpr c129
                      subst c129
                      have H1 : (some false) = some r := by rw [if_neg (show ¬ (false = true) by decide)] at H; exact H
                      clear H
                      have H := H1
                      clear H1
                      exact absurd ((Option.some.inj H).trans hr_) (by simp)
                  · rw [if_neg c128] at H
                    have c128b0 : ((wrap64 (Int.tdiv t131 a1)) == a0) = false := beq_eq_false_iff_ne.mpr c128
                    have c128b1 : ((wrap64 (Int.tdiv t131 a1)) != a0) = true := bne_iff_ne.mpr c128
                    by_cases c130 : t128 = true
                    · subst c130
                      have H1 : (some false) = some r := by rw [if_pos rfl] at H; exact H
                      clear H
                      have H := H1
                      clear H1
                      exact absurd ((Option.some.inj H).trans hr_) (by simp)
                    · replace c130 := Bool.eq_false_iff.mpr c130
                      subst c130
                      have H1 : (some false) = some r := by rw [if_neg (show ¬ (false = true) by decide)] at H; exact H
                      clear H
                      have H := H1
                      clear H1
                      exact absurd ((Option.some.inj H).trans hr_) (by simp)
              · rw [if_neg c125] at H
                have c125b0 : (t141 == t131) = false := beq_eq_false_iff_ne.mpr c125
                have c125b1 : (t141 != t131) = true := bne_iff_ne.mpr c125
                by_cases c131 : t128 = true
                · subst c131
                  have H1 : (some false) = some r := by rw [if_pos rfl] at H; exact H
                  clear H
                  have H := H1
                  clear H1
                  exact absurd ((Option.some.inj H).trans hr_) (by simp)
                · replace c131 := Bool.eq_false_iff.mpr c131
                  subst c131
                  have H1 : (some false) = some r := by rw [if_neg (show ¬ (false = true) by decide)] at H; exact H
                  clear H
                  have H := H1
                  clear H1
                  exact absurd ((Option.some.inj H).trans hr_) (by simp)
            · rw [if_neg c123] at H
              have c123b0 : (t132 == 0) = false := beq_eq_false_iff_ne.mpr c123
              have c123b1 : (t132 != 0) = true := bne_iff_ne.mpr c123
              by_cases c132 : t128 = true
              · subst c132
                have H1 : (some false) = some r := by rw [if_pos rfl] at H; exact H
                clear H
                have H := H1
                clear H1
                exact absurd ((Option.some.inj H).trans hr_) (by simp)
              · replace c132 := Bool.eq_false_iff.mpr c132
                subst c132
                have H1 : (some false) = some r := by rw [if_neg (show ¬ (false = true) by decide)] at H; exact H
                clear H
                have H := H1
                clear H1
                exact absurd ((Option.some.inj H).trans hr_) (by simp)
        · rw [if_neg c120] at H
          have c120b0 : (t132 == 10) = false := beq_eq_false_iff_ne.mpr c120
          have c120b1 : (t132 != 10) = true := bne_iff_ne.mpr c120
          by_cases c133 : t132 = 0
          · rw [if_pos c133] at H
            have c133b0 : (t132 == 0) = true := beq_iff_eq.mpr c133
            have c133b1 : (t132 != 0) = false := bne_eq_false_iff_eq.mpr c133
            clear c133
            replace H := Option.bind_eq_some_iff.mp H
            obtain ⟨t142, A1340, H⟩ := H
            replace H : (if t142 = t131 then (if a1 = 0 then (if t128 = true then (some false) else (some false)) else (if (wrap64 (Int.tdiv t131 a1)) = a0 then (if t128 = true then (some false) else (some false)) else (if t128 = true then (some false) else (some false)))) else (if t128 = true then (some false) else (some false))) = some r := H
            have A134 := Aside0.mk A1340
            clear A1340
            by_cases c135 : t142 = t131
            · rw [if_pos c135] at H
              have c135b0 : (t142 == t131) = true := beq_iff_eq.mpr c135
              have c135b1 : (t142 != t131) = false := bne_eq_false_iff_eq.mpr c135
              clear c135
              by_cases c136 : a1 = 0
              · rw [if_pos c136] at H
                have c136b0 : (a1 == 0) = true := beq_iff_eq.mpr c136
                have c136b1 : (a1 != 0) = false := bne_eq_false_iff_eq.mpr c136
                clear c136
                by_cases c137 : t128 = true
                · subst c137
                  have H1 : (some false) = some r := by rw [if_pos rfl] at H; exact H
                  clear H
                  have H := H1
                  clear H1
                  exact absurd ((Option.some.inj H).trans hr_) (by simp)
                · replace c137 := Bool.eq_false_iff.mpr c137
                  subst c137
                  have H1 : (some false) = some r := by rw [if_neg (show ¬ (false = true) by decide)] at H; exact H
                  clear H
                  have H := H1
                  clear H1
                  exact absurd ((Option.some.inj H).trans hr_) (by simp)
              · rw [if_neg c136] at H
                have c136b0 : (a1 == 0) = false := beq_eq_false_iff_ne.mpr c136
                have c136b1 : (a1 != 0) = true := bne_iff_ne.mpr c136
                by_cases c138 : (wrap64 (Int.tdiv t131 a1)) = a0
                · rw [if_pos c138] at H
                  have c138b0 : ((wrap64 (Int.tdiv t131 a1)) == a0) = true := beq_iff_eq.mpr c138
                  have c138b1 : ((wrap64 (Int.tdiv t131 a1)) != a0) = false := bne_eq_false_iff_eq.mpr c138
                  clear c138
                  by_cases c139 : t128 = true
                  · subst c139
                    have H1 : (some false) = some r := by rw [if_pos rfl] at H; exact H
                    clear H
                    have H := H1
                    clear H1
                    exact absurd ((Option.some.inj H).trans hr_) (by simp)
                  · replace c139 := Bool.eq_false_iff.mpr c139
                    subst c139
                    have H1 : (some false) = some r := by rw [if_neg (show ¬ (false = true) by decide)] at H; exact H
                    clear H
                    have H := H1
                    clear H1
                    exact absurd ((Option.some.inj H).trans hr_) (by simp)
                · rw [if_neg c138] at H
                  have c138b0 : ((wrap64 (Int.tdiv t131 a1)) == a0) = false := beq_eq_false_iff_ne.mpr c138
                  have c138b1 : ((wrap64 (Int.tdiv t131 a1)) != a0) = true := bne_iff_ne.mpr c138
                  by_cases c140 : t128 = true
                  · subst c140
                    have H1 : (some false) = some r := by rw [if_pos rfl] at H; exact H
                    clear H
                    have H := H1
                    clear H1
                    exact absurd ((Option.some.inj H).trans hr_) (by simp)
                  · replace c140 := Bool.eq_false_iff.mpr c140
                    subst c140
                    have H1 : (some false) = some r := by rw [if_neg (show ¬ (false = true) by decide)] at H; exact H
                    clear H
                    have H := H1
                    clear H1
                    exact absurd ((Option.some.inj H).trans hr_) (by simp)
            · rw [if_neg c135] at H
              have c135b0 : (t142 == t131) = false := beq_eq_false_iff_ne.mpr c135
              have c135b1 : (t142 != t131) = true := bne_iff_ne.mpr c135
              by_cases c141 : t128 = true
              · subst c141
                have H1 : (some false) = some r := by rw [if_pos rfl] at H; exact H
                clear H
                have H := H1
                clear H1
                exact absurd ((Option.some.inj H).trans hr_) (by simp)
              · replace c141 := Bool.eq_false_iff.mpr c141
                subst c141
                have H1 : (some false) = some r := by rw [if_neg (show ¬ (false = true) by decide)] at H; exact H
                clear H
                have H := H1
                clear H1
                exact absurd ((Option.some.inj H).trans hr_) (by simp)
          · rw [if_neg c133] at H
            have c133b0 : (t132 == 0) = false := beq_eq_false_iff_ne.mpr c133
            have c133b1 : (t132 != 0) = true := bne_iff_ne.mpr c133
            by_cases c142 : t128 = true
            · subst c142
              have H1 : (some false) = some r := by rw [if_pos rfl] at H; exact H
              clear H
              have H := H1
              clear H1
              exact absurd ((Option.some.inj H).trans hr_) (by simp)
            · replace c142 := Bool.eq_false_iff.mpr c142
              subst c142
              have H1 : (some false) = some r := by rw [if_neg (show ¬ (false = true) by decide)] at H; exact H
              clear H
              have H := H1
              clear H1
              exact absurd ((Option.some.inj H).trans hr_) (by simp)
  · rw [if_neg c6] at H
    have c6b0 : (t130 == 10) = false := beq_eq_false_iff_ne.mpr c6
    have c6b1 : (t130 != 10) = true := bne_iff_ne.mpr c6
    by_cases c143 : t130 = 0
    · rw [if_pos c143] at H
      have c143b0 : (t130 == 0) = true := beq_iff_eq.mpr c143
      have c143b1 : (t130 != 0) = false := bne_eq_false_iff_eq.mpr c143
      clear c143
      replace H := Option.bind_eq_some_iff.mp H
      obtain ⟨t143, A1440, H⟩ := H
      replace H : (if t143 = a0 then ((safe_Add.f a0 a1).bind fun t144 => (if t132 = 10 then (if t131 = 0 then (if t128 = true then (if t144 = t129 then (some true) else (some false)) else (some false)) else (if t132 = 0 then ((safe_Mul.f a0 a1).bind fun t145 => (if t145 = t131 then (if a1 = 0 then (if t128 = true then (if t144 = t129 then (some true) else (some false)) else (some false)) else (if (wrap64 (Int.tdiv t131 a1)) = a0 then (if t128 = true then (if t144 = t129 then (some ((Int.tmod t131 a1) == 0)) else (some false)) else (some false)) else (if t128 = true then (if t144 = t129 then (some false) else (some false)) else (some false)))) else (if t128 = true then (if t144 = t129 then (some false) else (some false)) else (some false)))) else (if t128 = true then (if t144 = t129 then (some false) else (some false)) else (some false)))) else (if t132 = 0 then ((safe_Mul.f a0 a1).bind fun t146 => (if t146 = t131 then (if a1 = 0 then (if t128 = true then (if t144 = t129 then (some true) else (some false)) else (some false)) else (if (wrap64 (Int.tdiv t131 a1)) = a0 then (if t128 = true then (if t144 = t129 then (some ((Int.tmod t131 a1) == 0)) else (some false)) else (some false)) else (if t128 = true then (if t144 = t129 then (some false) else (some false)) else (some false)))) else (if t128 = true then (if t144 = t129 then (some false) else (some false)) else (some false)))) else (if t128 = true then (if t144 = t129 then (some false) else (some false)) else (some false))))) else (if t132 = 10 then (if t131 = 0 then (if t128 = true then (some false) else (some false)) else (if t132 = 0 then ((safe_Mul.f a0 a1).bind fun t147 => (if t147 = t131 then (if a1 = 0 then (if t128 = true then (some false) else (some false)) else (if (wrap64 (Int.tdiv t131 a1)) = a0 then (if t128 = true then (some false) else (some false)) else (if t128 = true then (some false) else (some false)))) else (if t128 = true then (some false) else (some false)))) else (if t128 = true then (some false) else (some false)))) else (if t132 = 0 then ((safe_Mul.f a0 a1).bind fun t148 => (if t148 = t131 then (if a1 = 0 then (if t128 = true then (some false) else (some false)) else (if (wrap64 (Int.tdiv t131 a1)) = a0 then (if t128 = true then (some false) else (some false)) else (if t128 = true then (some false) else (some false)))) else (if t128 = true then (some false) else (some false)))) else (if t128 = true then (some false) else (some false))))) = some r := H
      have A144 := Aside0.mk A1440
      clear A1440
      by_cases c145 : t143 = a0
      · rw [if_pos c145] at H
        have c145b0 : (t143 == a0) = true := beq_iff_eq.mpr c145
        have c145b1 : (t143 != a0) = false := bne_eq_false_iff_eq.mpr c145
        clear c145
        replace H := Option.bind_eq_some_iff.mp H
        obtain ⟨t144, A1460, H⟩ := H
        replace H : (if t132 = 10 then (if t131 = 0 then (if t128 = true then (if t144 = t129 then (some true) else (some false)) else (some false)) else (if t132 = 0 then ((safe_Mul.f a0 a1).bind fun t145 => (if t145 = t131 then (if a1 = 0 then (if t128 = true then (if t144 = t129 then (some true) else (some false)) else (some false)) else (if (wrap64 (Int.tdiv t131 a1)) = a0 then (if t128 = true then (if t144 = t129 then (some ((Int.tmod t131 a1) == 0)) else (some false)) else (some false)) else (if t128 = true then (if t144 = t129 then (some false) else (some false)) else (some false)))) else (if t128 = true then (if t144 = t129 then (some false) else (some false)) else (some false)))) else (if t128 = true then (if t144 = t129 then (some false) else (some false)) else (some false)))) else (if t132 = 0 then ((safe_Mul.f a0 a1).bind fun t146 => (if t146 = t131 then (if a1 = 0 then (if t128 = true then (if t144 = t129 then (some true) else (some false)) else (some false)) else (if (wrap64 (Int.tdiv t131 a1)) = a0 then (if t128 = true then (if t144 = t129 then (some ((Int.tmod t131 a1) == 0)) else (some false)) else (some false)) else (if t128 = true then (if t144 = t129 then (some false) else (some false)) else (some false)))) else (if t128 = true then (if t144 = t129 then (some false) else (some false)) else (some false)))) else (if t128 = true then (if t144 = t129 then (some false) else (some false)) else (some false)))) = some r := H
        have A146 := Aside0.mk A1460
        clear A1460
        by_cases c147 : t132 = 10
        · rw [if_pos c147] at H
          have c147b0 : (t132 == 10) = true := beq_iff_eq.mpr c147
          have c147b1 : (t132 != 10) = false := bne_eq_false_iff_eq.mpr c147
          clear c147
          by_cases c148 : t131 = 0
          · rw [if_pos c148] at H
            have c148b0 : (t131 == 0) = true := beq_iff_eq.mpr c148
            have c148b1 : (t131 != 0) = false := bne_eq_false_iff_eq.mpr c148
            clear c148
            by_cases c149 : t128 = true
            · subst c149
              have H1 : (if t144 = t129 then (some true) else (some false)) = some r := by rw [if_pos rfl] at H; exact H
              clear H
              have H := H1
              clear H1
              by_cases c150 : t144 = t129
              · rw [if_pos c150] at H
                have c150b0 : (t144 == t129) = true := beq_iff_eq.mpr c150
                have c150b1 : (t144 != t129) = false := bne_eq_false_iff_eq.mpr c150
                clear c150
                obtain rfl := Option.some.inj H
                go_enter Try.func4, Try.ntmps4
                go_wp2_with (first | ((with_reducible refine gate_callee (f := 9) rfl ?_); refine goesL_ (some 12) rfl rfl Try.func9 (by kernel_rfl) rfl #[] rfl (by (try simp only [List.map_toArray, List.map_cons, List.map_nil]); first | done | rfl | (simp only [List.length_drop, List.length_take]; rfl)) ?_; (with_reducible refine (sawtoothlaw01_awake.calls  true _ A3.out).mono ?_); rintro e w151 ⟨rfl, hb⟩; refine ⟨_, rfl, ?_⟩; have n0_ := Aside0.mk (below_step (by repeat (first | (with_reducible first | exact HB.out | apply below_alloc | apply pw_below_drewN | apply below_drew1) | exact HB.out)) hb); clear HB; have HB := n0_; clear n0_; (try clear hb); (try clear hb2); (try clear hk); (try clear hi)) | ((with_reducible refine gate_callee (f := 10) rfl ?_); refine goesL_ (some 16) rfl rfl Try.func10 (by kernel_rfl) rfl #[.int .i64 a0, .int .i64 a1] rfl (by (try simp only [List.map_toArray, List.map_cons, List.map_nil]); first | done | rfl | (simp only [List.length_drop, List.length_take]; rfl)) ?_; (with_reducible refine (safe_Plus.calls a0 a1 t129 t130 _ A4.out).mono ?_); rintro e w' ⟨rfl, ⟨nd, rfl⟩⟩; refine ⟨_, rfl, ?_⟩) | ((with_reducible refine gate_callee (f := 12) rfl ?_); refine goesL_ (some 22) rfl rfl Try.func12 (by kernel_rfl) rfl #[.int .i64 a0, .int .i64 a1] rfl (by (try simp only [List.map_toArray, List.map_cons, List.map_nil]); first | done | rfl | (simp only [List.length_drop, List.length_take]; rfl)) ?_; (with_reducible refine (safe_Times.calls a0 a1 t131 t132 _ A5.out).mono ?_); rintro e w' ⟨rfl, ⟨nd, rfl⟩⟩; refine ⟨_, rfl, ?_⟩) | (go_at_call 16; (with_reducible refine (safe_Sub.calls t129 a1 t143 _ A144.out).mono ?_); rintro e w152 ⟨rfl, hb⟩; have n0_ := Aside0.mk (below_step (by repeat (first | (with_reducible first | exact HB.out | apply below_alloc | apply pw_below_drewN | apply below_drew1) | exact HB.out)) hb); clear HB; have HB := n0_; clear n0_; (try clear hb); (try clear hb2); (try clear hk); (try clear hi)) | (go_at_call 14; (with_reducible refine (safe_Add.calls a0 a1 t144 _ A146.out).mono ?_); rintro e w153 ⟨rfl, hb⟩; have n0_ := Aside0.mk (below_step (by repeat (first | (with_reducible first | exact HB.out | apply below_alloc | apply pw_below_drewN | apply below_drew1) | exact HB.out)) hb); clear HB; have HB := n0_; clear n0_; (try clear hb); (try clear hb2); (try clear hk); (try clear hi)))
                go_ret
                exact ⟨by first | rfl | (simp [errW_none, errW_some] <;> rfl) | (simp [*, errW_none, errW_some] <;> rfl), by repeat (first | (with_reducible first | exact HB.out | apply below_alloc | apply pw_below_drewN | apply below_drew1) | exact HB.out)⟩
              · rw [if_neg c150] at H
                have c150b0 : (t144 == t129) = false := beq_eq_false_iff_ne.mpr c150
                have c150b1 : (t144 != t129) = true := bne_iff_ne.mpr c150
                exact absurd ((Option.some.inj H).trans hr_) (by simp)
            · replace c149 := Bool.eq_false_iff.mpr c149
              subst c149
              have H1 : (some false) = some r := by rw [if_neg (show ¬ (false = true) by decide)] at H; exact H
              clear H
              have H := H1
              clear H1
              exact absurd ((Option.some.inj H).trans hr_) (by simp)
          · rw [if_neg c148] at H
            have c148b0 : (t131 == 0) = false := beq_eq_false_iff_ne.mpr c148
            have c148b1 : (t131 != 0) = true := bne_iff_ne.mpr c148
            by_cases c154 : t132 = 0
            · rw [if_pos c154] at H
              have c154b0 : (t132 == 0) = true := beq_iff_eq.mpr c154
              have c154b1 : (t132 != 0) = false := bne_eq_false_iff_eq.mpr c154
              clear c154
              replace H := Option.bind_eq_some_iff.mp H
              obtain ⟨t145, A1550, H⟩ := H
              replace H : (if t145 = t131 then (if a1 = 0 then (if t128 = true then (if t144 = t129 then (some true) else (some false)) else (some false)) else (if (wrap64 (Int.tdiv t131 a1)) = a0 then (if t128 = true then (if t144 = t129 then (some ((Int.tmod t131 a1) == 0)) else (some false)) else (some false)) else (if t128 = true then (if t144 = t129 then (some false) else (some false)) else (some false)))) else (if t128 = true then (if t144 = t129 then (some false) else (some false)) else (some false))) = some r := H
              have A155 := Aside0.mk A1550
              clear A1550
              by_cases c156 : t145 = t131
              · rw [if_pos c156] at H
                have c156b0 : (t145 == t131) = true := beq_iff_eq.mpr c156
                have c156b1 : (t145 != t131) = false := bne_eq_false_iff_eq.mpr c156
                clear c156
                by_cases c157 : a1 = 0
                · rw [if_pos c157] at H
                  have c157b0 : (a1 == 0) = true := beq_iff_eq.mpr c157
                  have c157b1 : (a1 != 0) = false := bne_eq_false_iff_eq.mpr c157
                  clear c157
                  by_cases c158 : t128 = true
                  · subst c158
                    have H1 : (if t144 = t129 then (some true) else (some false)) = some r := by rw [if_pos rfl] at H; exact H
                    clear H
                    have H := H1
                    clear H1
                    by_cases c159 : t144 = t129
                    · rw [if_pos c159] at H
                      have c159b0 : (t144 == t129) = true := beq_iff_eq.mpr c159
                      have c159b1 : (t144 != t129) = false := bne_eq_false_iff_eq.mpr c159
                      clear c159
                      obtain rfl := Option.some.inj H
                      go_enter Try.func4, Try.ntmps4
                      go_wp2_with (first | ((with_reducible refine gate_callee (f := 9) rfl ?_); refine goesL_ (some 12) rfl rfl Try.func9 (by kernel_rfl) rfl #[] rfl (by (try simp only [List.map_toArray, List.map_cons, List.map_nil]); first | done | rfl | (simp only [List.length_drop, List.length_take]; rfl)) ?_; (with_reducible refine (sawtoothlaw01_awake.calls  true _ A3.out).mono ?_); rintro e w160 ⟨rfl, hb⟩; refine ⟨_, rfl, ?_⟩; have n0_ := Aside0.mk (below_step (by repeat (first | (with_reducible first | exact HB.out | apply below_alloc | apply pw_below_drewN | apply below_drew1) | exact HB.out)) hb); clear HB; have HB := n0_; clear n0_; (try clear hb); (try clear hb2); (try clear hk); (try clear hi)) | ((with_reducible refine gate_callee (f := 10) rfl ?_); refine goesL_ (some 16) rfl rfl Try.func10 (by kernel_rfl) rfl #[.int .i64 a0, .int .i64 a1] rfl (by (try simp only [List.map_toArray, List.map_cons, List.map_nil]); first | done | rfl | (simp only [List.length_drop, List.length_take]; rfl)) ?_; (with_reducible refine (safe_Plus.calls a0 a1 t129 t130 _ A4.out).mono ?_); rintro e w' ⟨rfl, ⟨nd, rfl⟩⟩; refine ⟨_, rfl, ?_⟩) | ((with_reducible refine gate_callee (f := 12) rfl ?_); refine goesL_ (some 22) rfl rfl Try.func12 (by kernel_rfl) rfl #[.int .i64 a0, .int .i64 a1] rfl (by (try simp only [List.map_toArray, List.map_cons, List.map_nil]); first | done | rfl | (simp only [List.length_drop, List.length_take]; rfl)) ?_; (with_reducible refine (safe_Times.calls a0 a1 t131 t132 _ A5.out).mono ?_); rintro e w' ⟨rfl, ⟨nd, rfl⟩⟩; refine ⟨_, rfl, ?_⟩) | (go_at_call 16; (with_reducible refine (safe_Sub.calls t129 a1 t143 _ A144.out).mono ?_); rintro e w161 ⟨rfl, hb⟩; have n0_ := Aside0.mk (below_step (by repeat (first | (with_reducible first | exact HB.out | apply below_alloc | apply pw_below_drewN | apply below_drew1) | exact HB.out)) hb); clear HB; have HB := n0_; clear n0_; (try clear hb); (try clear hb2); (try clear hk); (try clear hi)) | (go_at_call 14; (with_reducible refine (safe_Add.calls a0 a1 t144 _ A146.out).mono ?_); rintro e w162 ⟨rfl, hb⟩; have n0_ := Aside0.mk (below_step (by repeat (first | (with_reducible first | exact HB.out | apply below_alloc | apply pw_below_drewN | apply below_drew1) | exact HB.out)) hb); clear HB; have HB := n0_; clear n0_; (try clear hb); (try clear hb2); (try clear hk); (try clear hi)) | (go_at_call 18; (with_reducible refine (safe_Mul.calls a0 a1 t145 _ A155.out).mono ?_); rintro e w163 ⟨rfl, hb⟩; have n0_ := Aside0.mk (below_step (by repeat (first | (with_reducible first | exact HB.out | apply below_alloc | apply pw_below_drewN | apply below_drew1) | exact HB.out)) hb); clear HB; have HB := n0_; clear n0_; (try clear hb); (try clear hb2); (try clear hk); (try clear hi)))
                      go_ret
                      exact ⟨by first | rfl | (simp [errW_none, errW_some] <;> rfl) | (simp [*, errW_none, errW_some] <;> rfl), by repeat (first | (with_reducible first | exact HB.out | apply below_alloc | apply pw_below_drewN | apply below_drew1) | exact HB.out)⟩
                    · rw [if_neg c159] at H
                      have c159b0 : (t144 == t129) = false := beq_eq_false_iff_ne.mpr c159
                      have c159b1 : (t144 != t129) = true := bne_iff_ne.mpr c159
                      exact absurd ((Option.some.inj H).trans hr_) (by simp)
                  · replace c158 := Bool.eq_false_iff.mpr c158
                    subst c158
                    have H1 : (some false) = some r := by rw [if_neg (show ¬ (false = true) by decide)] at H; exact H
                    clear H
                    have H := H1
                    clear H1
                    exact absurd ((Option.some.inj H).trans hr_) (by simp)
                · rw [if_neg c157] at H
                  have c157b0 : (a1 == 0) = false := beq_eq_false_iff_ne.mpr c157
                  have c157b1 : (a1 != 0) = true := bne_iff_ne.mpr c157
                  by_cases c164 : (wrap64 (Int.tdiv t131 a1)) = a0
                  · rw [if_pos c164] at H
                    have c164b0 : ((wrap64 (Int.tdiv t131 a1)) == a0) = true := beq_iff_eq.mpr c164
                    have c164b1 : ((wrap64 (Int.tdiv t131 a1)) != a0) = false := bne_eq_false_iff_eq.mpr c164
                    clear c164
                    by_cases c165 : t128 = true
                    · subst c165
                      have H1 : (if t144 = t129 then (some ((Int.tmod t131 a1) == 0)) else (some false)) = some r := by rw [if_pos rfl] at H; exact H
                      clear H
                      have H := H1
                      clear H1
                      by_cases c166 : t144 = t129
                      · rw [if_pos c166] at H
                        have c166b0 : (t144 == t129) = true := beq_iff_eq.mpr c166
                        have c166b1 : (t144 != t129) = false := bne_eq_false_iff_eq.mpr c166
                        clear c166
                        obtain rfl := Option.some.inj H
                        go_enter Try.func4, Try.ntmps4
                        go_wp2_with (first | ((with_reducible refine gate_callee (f := 9) rfl ?_); refine goesL_ (some 12) rfl rfl Try.func9 (by kernel_rfl) rfl #[] rfl (by (try simp only [List.map_toArray, List.map_cons, List.map_nil]); first | done | rfl | (simp only [List.length_drop, List.length_take]; rfl)) ?_; (with_reducible refine (sawtoothlaw01_awake.calls  true _ A3.out).mono ?_); rintro e w167 ⟨rfl, hb⟩; refine ⟨_, rfl, ?_⟩; have n0_ := Aside0.mk (below_step (by repeat (first | (with_reducible first | exact HB.out | apply below_alloc | apply pw_below_drewN | apply below_drew1) | exact HB.out)) hb); clear HB; have HB := n0_; clear n0_; (try clear hb); (try clear hb2); (try clear hk); (try clear hi)) | ((with_reducible refine gate_callee (f := 10) rfl ?_); refine goesL_ (some 16) rfl rfl Try.func10 (by kernel_rfl) rfl #[.int .i64 a0, .int .i64 a1] rfl (by (try simp only [List.map_toArray, List.map_cons, List.map_nil]); first | done | rfl | (simp only [List.length_drop, List.length_take]; rfl)) ?_; (with_reducible refine (safe_Plus.calls a0 a1 t129 t130 _ A4.out).mono ?_); rintro e w' ⟨rfl, ⟨nd, rfl⟩⟩; refine ⟨_, rfl, ?_⟩) | ((with_reducible refine gate_callee (f := 12) rfl ?_); refine goesL_ (some 22) rfl rfl Try.func12 (by kernel_rfl) rfl #[.int .i64 a0, .int .i64 a1] rfl (by (try simp only [List.map_toArray, List.map_cons, List.map_nil]); first | done | rfl | (simp only [List.length_drop, List.length_take]; rfl)) ?_; (with_reducible refine (safe_Times.calls a0 a1 t131 t132 _ A5.out).mono ?_); rintro e w' ⟨rfl, ⟨nd, rfl⟩⟩; refine ⟨_, rfl, ?_⟩) | (go_at_call 16; (with_reducible refine (safe_Sub.calls t129 a1 t143 _ A144.out).mono ?_); rintro e w168 ⟨rfl, hb⟩; have n0_ := Aside0.mk (below_step (by repeat (first | (with_reducible first | exact HB.out | apply below_alloc | apply pw_below_drewN | apply below_drew1) | exact HB.out)) hb); clear HB; have HB := n0_; clear n0_; (try clear hb); (try clear hb2); (try clear hk); (try clear hi)) | (go_at_call 14; (with_reducible refine (safe_Add.calls a0 a1 t144 _ A146.out).mono ?_); rintro e w169 ⟨rfl, hb⟩; have n0_ := Aside0.mk (below_step (by repeat (first | (with_reducible first | exact HB.out | apply below_alloc | apply pw_below_drewN | apply below_drew1) | exact HB.out)) hb); clear HB; have HB := n0_; clear n0_; (try clear hb); (try clear hb2); (try clear hk); (try clear hi)) | (go_at_call 18; (with_reducible refine (safe_Mul.calls a0 a1 t145 _ A155.out).mono ?_); rintro e w170 ⟨rfl, hb⟩; have n0_ := Aside0.mk (below_step (by repeat (first | (with_reducible first | exact HB.out | apply below_alloc | apply pw_below_drewN | apply below_drew1) | exact HB.out)) hb); clear HB; have HB := n0_; clear n0_; (try clear hb); (try clear hb2); (try clear hk); (try clear hi)))
                        go_ret
                        exact ⟨by first | rfl | (simp [errW_none, errW_some] <;> rfl) | (simp [*, errW_none, errW_some] <;> rfl), by repeat (first | (with_reducible first | exact HB.out | apply below_alloc | apply pw_below_drewN | apply below_drew1) | exact HB.out)⟩
                      · rw [if_neg c166] at H
                        have c166b0 : (t144 == t129) = false := beq_eq_false_iff_ne.mpr c166
                        have c166b1 : (t144 != t129) = true := bne_iff_ne.mpr c166
                        exact absurd ((Option.some.inj H).trans hr_) (by simp)
                    · replace c165 := Bool.eq_false_iff.mpr c165
                      subst c165
                      have H1 : (some false) = some r := by rw [if_neg (show ¬ (false = true) by decide)] at H; exact H
                      clear H
                      have H := H1
                      clear H1
                      exact absurd ((Option.some.inj H).trans hr_) (by simp)
                  · rw [if_neg c164] at H
                    have c164b0 : ((wrap64 (Int.tdiv t131 a1)) == a0) = false := beq_eq_false_iff_ne.mpr c164
                    have c164b1 : ((wrap64 (Int.tdiv t131 a1)) != a0) = true := bne_iff_ne.mpr c164
                    by_cases c171 : t128 = true
                    · subst c171
                      have H1 : (if t144 = t129 then (some false) else (some false)) = some r := by rw [if_pos rfl] at H; exact H
                      clear H
                      have H := H1
                      clear H1
                      by_cases c172 : t144 = t129
                      · rw [if_pos c172] at H
                        have c172b0 : (t144 == t129) = true := beq_iff_eq.mpr c172
                        have c172b1 : (t144 != t129) = false := bne_eq_false_iff_eq.mpr c172
                        clear c172
                        exact absurd ((Option.some.inj H).trans hr_) (by simp)
                      · rw [if_neg c172] at H
                        have c172b0 : (t144 == t129) = false := beq_eq_false_iff_ne.mpr c172
                        have c172b1 : (t144 != t129) = true := bne_iff_ne.mpr c172
                        exact absurd ((Option.some.inj H).trans hr_) (by simp)
                    · replace c171 := Bool.eq_false_iff.mpr c171
                      subst c171
                      have H1 : (some false) = some r := by rw [if_neg (show ¬ (false = true) by decide)] at H; exact H
                      clear H
                      have H := H1
                      clear H1
                      exact absurd ((Option.some.inj H).trans hr_) (by simp)
              · rw [if_neg c156] at H
                have c156b0 : (t145 == t131) = false := beq_eq_false_iff_ne.mpr c156
                have c156b1 : (t145 != t131) = true := bne_iff_ne.mpr c156
                by_cases c173 : t128 = true
                · subst c173
                  have H1 : (if t144 = t129 then (some false) else (some false)) = some r := by rw [if_pos rfl] at H; exact H
                  clear H
                  have H := H1
                  clear H1
                  by_cases c174 : t144 = t129
                  · rw [if_pos c174] at H
                    have c174b0 : (t144 == t129) = true := beq_iff_eq.mpr c174
                    have c174b1 : (t144 != t129) = false := bne_eq_false_iff_eq.mpr c174
                    clear c174
                    exact absurd ((Option.some.inj H).trans hr_) (by simp)
                  · rw [if_neg c174] at H
                    have c174b0 : (t144 == t129) = false := beq_eq_false_iff_ne.mpr c174
                    have c174b1 : (t144 != t129) = true := bne_iff_ne.mpr c174
                    exact absurd ((Option.some.inj H).trans hr_) (by simp)
                · replace c173 := Bool.eq_false_iff.mpr c173
                  subst c173
                  have H1 : (some false) = some r := by rw [if_neg (show ¬ (false = true) by decide)] at H; exact H
                  clear H
                  have H := H1
                  clear H1
                  exact absurd ((Option.some.inj H).trans hr_) (by simp)
            · rw [if_neg c154] at H
              have c154b0 : (t132 == 0) = false := beq_eq_false_iff_ne.mpr c154
              have c154b1 : (t132 != 0) = true := bne_iff_ne.mpr c154
              by_cases c175 : t128 = true
              · subst c175
                have H1 : (if t144 = t129 then (some false) else (some false)) = some r := by rw [if_pos rfl] at H; exact H
                clear H
                have H := H1
                clear H1
                by_cases c176 : t144 = t129
                · rw [if_pos c176] at H
                  have c176b0 : (t144 == t129) = true := beq_iff_eq.mpr c176
                  have c176b1 : (t144 != t129) = false := bne_eq_false_iff_eq.mpr c176
                  clear c176
                  exact absurd ((Option.some.inj H).trans hr_) (by simp)
                · rw [if_neg c176] at H
                  have c176b0 : (t144 == t129) = false := beq_eq_false_iff_ne.mpr c176
                  have c176b1 : (t144 != t129) = true := bne_iff_ne.mpr c176
                  exact absurd ((Option.some.inj H).trans hr_) (by simp)
              · replace c175 := Bool.eq_false_iff.mpr c175
                subst c175
                have H1 : (some false) = some r := by rw [if_neg (show ¬ (false = true) by decide)] at H; exact H
                clear H
                have H := H1
                clear H1
                exact absurd ((Option.some.inj H).trans hr_) (by simp)
        · rw [if_neg c147] at H
          have c147b0 : (t132 == 10) = false := beq_eq_false_iff_ne.mpr c147
          have c147b1 : (t132 != 10) = true := bne_iff_ne.mpr c147
          by_cases c177 : t132 = 0
          · rw [if_pos c177] at H
            have c177b0 : (t132 == 0) = true := beq_iff_eq.mpr c177
            have c177b1 : (t132 != 0) = false := bne_eq_false_iff_eq.mpr c177
            clear c177
            replace H := Option.bind_eq_some_iff.mp H
            obtain ⟨t146, A1780, H⟩ := H
            replace H : (if t146 = t131 then (if a1 = 0 then (if t128 = true then (if t144 = t129 then (some true) else (some false)) else (some false)) else (if (wrap64 (Int.tdiv t131 a1)) = a0 then (if t128 = true then (if t144 = t129 then (some ((Int.tmod t131 a1) == 0)) else (some false)) else (some false)) else (if t128 = true then (if t144 = t129 then (some false) else (some false)) else (some false)))) else (if t128 = true then (if t144 = t129 then (some false) else (some false)) else (some false))) = some r := H
            have A178 := Aside0.mk A1780
            clear A1780
            by_cases c179 : t146 = t131
            · rw [if_pos c179] at H
              have c179b0 : (t146 == t131) = true := beq_iff_eq.mpr c179
              have c179b1 : (t146 != t131) = false := bne_eq_false_iff_eq.mpr c179
              clear c179
              by_cases c180 : a1 = 0
              · rw [if_pos c180] at H
                have c180b0 : (a1 == 0) = true := beq_iff_eq.mpr c180
                have c180b1 : (a1 != 0) = false := bne_eq_false_iff_eq.mpr c180
                clear c180
                by_cases c181 : t128 = true
                · subst c181
                  have H1 : (if t144 = t129 then (some true) else (some false)) = some r := by rw [if_pos rfl] at H; exact H
                  clear H
                  have H := H1
                  clear H1
                  by_cases c182 : t144 = t129
                  · rw [if_pos c182] at H
                    have c182b0 : (t144 == t129) = true := beq_iff_eq.mpr c182
                    have c182b1 : (t144 != t129) = false := bne_eq_false_iff_eq.mpr c182
                    clear c182
                    obtain rfl := Option.some.inj H
                    go_enter Try.func4, Try.ntmps4
                    go_wp2_with (first | ((with_reducible refine gate_callee (f := 9) rfl ?_); refine goesL_ (some 12) rfl rfl Try.func9 (by kernel_rfl) rfl #[] rfl (by (try simp only [List.map_toArray, List.map_cons, List.map_nil]); first | done | rfl | (simp only [List.length_drop, List.length_take]; rfl)) ?_; (with_reducible refine (sawtoothlaw01_awake.calls  true _ A3.out).mono ?_); rintro e w183 ⟨rfl, hb⟩; refine ⟨_, rfl, ?_⟩; have n0_ := Aside0.mk (below_step (by repeat (first | (with_reducible first | exact HB.out | apply below_alloc | apply pw_below_drewN | apply below_drew1) | exact HB.out)) hb); clear HB; have HB := n0_; clear n0_; (try clear hb); (try clear hb2); (try clear hk); (try clear hi)) | ((with_reducible refine gate_callee (f := 10) rfl ?_); refine goesL_ (some 16) rfl rfl Try.func10 (by kernel_rfl) rfl #[.int .i64 a0, .int .i64 a1] rfl (by (try simp only [List.map_toArray, List.map_cons, List.map_nil]); first | done | rfl | (simp only [List.length_drop, List.length_take]; rfl)) ?_; (with_reducible refine (safe_Plus.calls a0 a1 t129 t130 _ A4.out).mono ?_); rintro e w' ⟨rfl, ⟨nd, rfl⟩⟩; refine ⟨_, rfl, ?_⟩) | ((with_reducible refine gate_callee (f := 12) rfl ?_); refine goesL_ (some 22) rfl rfl Try.func12 (by kernel_rfl) rfl #[.int .i64 a0, .int .i64 a1] rfl (by (try simp only [List.map_toArray, List.map_cons, List.map_nil]); first | done | rfl | (simp only [List.length_drop, List.length_take]; rfl)) ?_; (with_reducible refine (safe_Times.calls a0 a1 t131 t132 _ A5.out).mono ?_); rintro e w' ⟨rfl, ⟨nd, rfl⟩⟩; refine ⟨_, rfl, ?_⟩) | (go_at_call 16; (with_reducible refine (safe_Sub.calls t129 a1 t143 _ A144.out).mono ?_); rintro e w184 ⟨rfl, hb⟩; have n0_ := Aside0.mk (below_step (by repeat (first | (with_reducible first | exact HB.out | apply below_alloc | apply pw_below_drewN | apply below_drew1) | exact HB.out)) hb); clear HB; have HB := n0_; clear n0_; (try clear hb); (try clear hb2); (try clear hk); (try clear hi)) | (go_at_call 14; (with_reducible refine (safe_Add.calls a0 a1 t144 _ A146.out).mono ?_); rintro e w185 ⟨rfl, hb⟩; have n0_ := Aside0.mk (below_step (by repeat (first | (with_reducible first | exact HB.out | apply below_alloc | apply pw_below_drewN | apply below_drew1) | exact HB.out)) hb); clear HB; have HB := n0_; clear n0_; (try clear hb); (try clear hb2); (try clear hk); (try clear hi)) | (go_at_call 18; (with_reducible refine (safe_Mul.calls a0 a1 t146 _ A178.out).mono ?_); rintro e w186 ⟨rfl, hb⟩; have n0_ := Aside0.mk (below_step (by repeat (first | (with_reducible first | exact HB.out | apply below_alloc | apply pw_below_drewN | apply below_drew1) | exact HB.out)) hb); clear HB; have HB := n0_; clear n0_; (try clear hb); (try clear hb2); (try clear hk); (try clear hi)))
                    go_ret
                    exact ⟨by first | rfl | (simp [errW_none, errW_some] <;> rfl) | (simp [*, errW_none, errW_some] <;> rfl), by repeat (first | (with_reducible first | exact HB.out | apply below_alloc | apply pw_below_drewN | apply below_drew1) | exact HB.out)⟩
                  · rw [if_neg c182] at H
                    have c182b0 : (t144 == t129) = false := beq_eq_false_iff_ne.mpr c182
                    have c182b1 : (t144 != t129) = true := bne_iff_ne.mpr c182
                    exact absurd ((Option.some.inj H).trans hr_) (by simp)
                · replace c181 := Bool.eq_false_iff.mpr c181
                  subst c181
                  have H1 : (some false) = some r := by rw [if_neg (show ¬ (false = true) by decide)] at H; exact H
                  clear H
                  have H := H1
                  clear H1
                  exact absurd ((Option.some.inj H).trans hr_) (by simp)
              · rw [if_neg c180] at H
                have c180b0 : (a1 == 0) = false := beq_eq_false_iff_ne.mpr c180
                have c180b1 : (a1 != 0) = true := bne_iff_ne.mpr c180
                by_cases c187 : (wrap64 (Int.tdiv t131 a1)) = a0
                · rw [if_pos c187] at H
                  have c187b0 : ((wrap64 (Int.tdiv t131 a1)) == a0) = true := beq_iff_eq.mpr c187
                  have c187b1 : ((wrap64 (Int.tdiv t131 a1)) != a0) = false := bne_eq_false_iff_eq.mpr c187
                  clear c187
                  by_cases c188 : t128 = true
                  · subst c188
                    have H1 : (if t144 = t129 then (some ((Int.tmod t131 a1) == 0)) else (some false)) = some r := by rw [if_pos rfl] at H; exact H
                    clear H
                    have H := H1
                    clear H1
                    by_cases c189 : t144 = t129
                    · rw [if_pos c189] at H
                      have c189b0 : (t144 == t129) = true := beq_iff_eq.mpr c189
                      have c189b1 : (t144 != t129) = false := bne_eq_false_iff_eq.mpr c189
                      clear c189
                      obtain rfl := Option.some.inj H
                      go_enter Try.func4, Try.ntmps4
                      go_wp2_with (first | ((with_reducible refine gate_callee (f := 9) rfl ?_); refine goesL_ (some 12) rfl rfl Try.func9 (by kernel_rfl) rfl #[] rfl (by (try simp only [List.map_toArray, List.map_cons, List.map_nil]); first | done | rfl | (simp only [List.length_drop, List.length_take]; rfl)) ?_; (with_reducible refine (sawtoothlaw01_awake.calls  true _ A3.out).mono ?_); rintro e w190 ⟨rfl, hb⟩; refine ⟨_, rfl, ?_⟩; have n0_ := Aside0.mk (below_step (by repeat (first | (with_reducible first | exact HB.out | apply below_alloc | apply pw_below_drewN | apply below_drew1) | exact HB.out)) hb); clear HB; have HB := n0_; clear n0_; (try clear hb); (try clear hb2); (try clear hk); (try clear hi)) | ((with_reducible refine gate_callee (f := 10) rfl ?_); refine goesL_ (some 16) rfl rfl Try.func10 (by kernel_rfl) rfl #[.int .i64 a0, .int .i64 a1] rfl (by (try simp only [List.map_toArray, List.map_cons, List.map_nil]); first | done | rfl | (simp only [List.length_drop, List.length_take]; rfl)) ?_; (with_reducible refine (safe_Plus.calls a0 a1 t129 t130 _ A4.out).mono ?_); rintro e w' ⟨rfl, ⟨nd, rfl⟩⟩; refine ⟨_, rfl, ?_⟩) | ((with_reducible refine gate_callee (f := 12) rfl ?_); refine goesL_ (some 22) rfl rfl Try.func12 (by kernel_rfl) rfl #[.int .i64 a0, .int .i64 a1] rfl (by (try simp only [List.map_toArray, List.map_cons, List.map_nil]); first | done | rfl | (simp only [List.length_drop, List.length_take]; rfl)) ?_; (with_reducible refine (safe_Times.calls a0 a1 t131 t132 _ A5.out).mono ?_); rintro e w' ⟨rfl, ⟨nd, rfl⟩⟩; refine ⟨_, rfl, ?_⟩) | (go_at_call 16; (with_reducible refine (safe_Sub.calls t129 a1 t143 _ A144.out).mono ?_); rintro e w191 ⟨rfl, hb⟩; have n0_ := Aside0.mk (below_step (by repeat (first | (with_reducible first | exact HB.out | apply below_alloc | apply pw_below_drewN | apply below_drew1) | exact HB.out)) hb); clear HB; have HB := n0_; clear n0_; (try clear hb); (try clear hb2); (try clear hk); (try clear hi)) | (go_at_call 14; (with_reducible refine (safe_Add.calls a0 a1 t144 _ A146.out).mono ?_); rintro e w192 ⟨rfl, hb⟩; have n0_ := Aside0.mk (below_step (by repeat (first | (with_reducible first | exact HB.out | apply below_alloc | apply pw_below_drewN | apply below_drew1) | exact HB.out)) hb); clear HB; have HB := n0_; clear n0_; (try clear hb); (try clear hb2); (try clear hk); (try clear hi)) | (go_at_call 18; (with_reducible refine (safe_Mul.calls a0 a1 t146 _ A178.out).mono ?_); rintro e w193 ⟨rfl, hb⟩; have n0_ := Aside0.mk (below_step (by repeat (first | (with_reducible first | exact HB.out | apply below_alloc | apply pw_below_drewN | apply below_drew1) | exact HB.out)) hb); clear HB; have HB := n0_; clear n0_; (try clear hb); (try clear hb2); (try clear hk); (try clear hi)))
                      go_ret
                      exact ⟨by first | rfl | (simp [errW_none, errW_some] <;> rfl) | (simp [*, errW_none, errW_some] <;> rfl), by repeat (first | (with_reducible first | exact HB.out | apply below_alloc | apply pw_below_drewN | apply below_drew1) | exact HB.out)⟩
                    · rw [if_neg c189] at H
                      have c189b0 : (t144 == t129) = false := beq_eq_false_iff_ne.mpr c189
                      have c189b1 : (t144 != t129) = true := bne_iff_ne.mpr c189
                      exact absurd ((Option.some.inj H).trans hr_) (by simp)
                  · replace c188 := Bool.eq_false_iff.mpr c188
                    subst c188
                    have H1 : (some false) = some r := by rw [if_neg (show ¬ (false = true) by decide)] at H; exact H
                    clear H
                    have H := H1
                    clear H1
                    exact absurd ((Option.some.inj H).trans hr_) (by simp)
                · rw [if_neg c187] at H
                  have c187b0 : ((wrap64 (Int.tdiv t131 a1)) == a0) = false := beq_eq_false_iff_ne.mpr c187
                  have c187b1 : ((wrap64 (Int.tdiv t131 a1)) != a0) = true := bne_iff_ne.mpr c187
                  by_cases c194 : t128 = true
                  · subst c194
                    have H1 : (if t144 = t129 then (some false) else (some false)) = some r := by rw [if_pos rfl] at H; exact H
                    clear H
                    have H := H1
                    clear H1
                    by_cases c195 : t144 = t129
                    · rw [if_pos c195] at H
                      have c195b0 : (t144 == t129) = true := beq_iff_eq.mpr c195
                      have c195b1 : (t144 != t129) = false := bne_eq_false_iff_eq.mpr c195
                      clear c195
                      exact absurd ((Option.some.inj H).trans hr_) (by simp)
                    · rw [if_neg c195] at H
                      have c195b0 : (t144 == t129) = false := beq_eq_false_iff_ne.mpr c195
                      have c195b1 : (t144 != t129) = true := bne_iff_ne.mpr c195
                      exact absurd ((Option.some.inj H).trans hr_) (by simp)
                  · replace c194 := Bool.eq_false_iff.mpr c194
                    subst c194
                    have H1 : (some false) = some r := by rw [if_neg (show ¬ (false = true) by decide)] at H; exact H
                    clear H
                    have H := H1
                    clear H1
                    exact absurd ((Option.some.inj H).trans hr_) (by simp)
            · rw [if_neg c179] at H
              have c179b0 : (t146 == t131) = false := beq_eq_false_iff_ne.mpr c179
              have c179b1 : (t146 != t131) = true := bne_iff_ne.mpr c179
              by_cases c196 : t128 = true
              · subst c196
                have H1 : (if t144 = t129 then (some false) else (some false)) = some r := by rw [if_pos rfl] at H; exact H
                clear H
                have H := H1
                clear H1
                by_cases c197 : t144 = t129
                · rw [if_pos c197] at H
                  have c197b0 : (t144 == t129) = true := beq_iff_eq.mpr c197
                  have c197b1 : (t144 != t129) = false := bne_eq_false_iff_eq.mpr c197
                  clear c197
                  exact absurd ((Option.some.inj H).trans hr_) (by simp)
                · rw [if_neg c197] at H
                  have c197b0 : (t144 == t129) = false := beq_eq_false_iff_ne.mpr c197
                  have c197b1 : (t144 != t129) = true := bne_iff_ne.mpr c197
                  exact absurd ((Option.some.inj H).trans hr_) (by simp)
              · replace c196 := Bool.eq_false_iff.mpr c196
                subst c196
                have H1 : (some false) = some r := by rw [if_neg (show ¬ (false = true) by decide)] at H; exact H
                clear H
                have H := H1
                clear H1
                exact absurd ((Option.some.inj H).trans hr_) (by simp)
          · rw [if_neg c177] at H
            have c177b0 : (t132 == 0) = false := beq_eq_false_iff_ne.mpr c177
            have c177b1 : (t132 != 0) = true := bne_iff_ne.mpr c177
            by_cases c198 : t128 = true
            · subst c198
              have H1 : (if t144 = t129 then (some false) else (some false)) = some r := by rw [if_pos rfl] at H; exact H
              clear H
              have H := H1
              clear H1
              by_cases c199 : t144 = t129
              · rw [if_pos c199] at H
                have c199b0 : (t144 == t129) = true := beq_iff_eq.mpr c199
                have c199b1 : (t144 != t129) = false := bne_eq_false_iff_eq.mpr c199
                clear c199
                exact absurd ((Option.some.inj H).trans hr_) (by simp)
              · rw [if_neg c199] at H
                have c199b0 : (t144 == t129) = false := beq_eq_false_iff_ne.mpr c199
                have c199b1 : (t144 != t129) = true := bne_iff_ne.mpr c199
                exact absurd ((Option.some.inj H).trans hr_) (by simp)
            · replace c198 := Bool.eq_false_iff.mpr c198
              subst c198
              have H1 : (some false) = some r := by rw [if_neg (show ¬ (false = true) by decide)] at H; exact H
              clear H
              have H := H1
              clear H1
              exact absurd ((Option.some.inj H).trans hr_) (by simp)
      · rw [if_neg c145] at H
        have c145b0 : (t143 == a0) = false := beq_eq_false_iff_ne.mpr c145
        have c145b1 : (t143 != a0) = true := bne_iff_ne.mpr c145
        by_cases c200 : t132 = 10
        · rw [if_pos c200] at H
          have c200b0 : (t132 == 10) = true := beq_iff_eq.mpr c200
          have c200b1 : (t132 != 10) = false := bne_eq_false_iff_eq.mpr c200
          clear c200
          by_cases c201 : t131 = 0
          · rw [if_pos c201] at H
            have c201b0 : (t131 == 0) = true := beq_iff_eq.mpr c201
            have c201b1 : (t131 != 0) = false := bne_eq_false_iff_eq.mpr c201
            clear c201
            by_cases c202 : t128 = true
            · subst c202
              have H1 : (some false) = some r := by rw [if_pos rfl] at H; exact H
              clear H
              have H := H1
              clear H1
              exact absurd ((Option.some.inj H).trans hr_) (by simp)
            · replace c202 := Bool.eq_false_iff.mpr c202
              subst c202
              have H1 : (some false) = some r := by rw [if_neg (show ¬ (false = true) by decide)] at H; exact H
              clear H
              have H := H1
              clear H1
              exact absurd ((Option.some.inj H).trans hr_) (by simp)
          · rw [if_neg c201] at H
            have c201b0 : (t131 == 0) = false := beq_eq_false_iff_ne.mpr c201
            have c201b1 : (t131 != 0) = true := bne_iff_ne.mpr c201
            by_cases c203 : t132 = 0
            · rw [if_pos c203] at H
              have c203b0 : (t132 == 0) = true := beq_iff_eq.mpr c203
              have c203b1 : (t132 != 0) = false := bne_eq_false_iff_eq.mpr c203
              clear c203
              replace H := Option.bind_eq_some_iff.mp H
              obtain ⟨t147, A2040, H⟩ := H
              replace H : (if t147 = t131 then (if a1 = 0 then (if t128 = true then (some false) else (some false)) else (if (wrap64 (Int.tdiv t131 a1)) = a0 then (if t128 = true then (some false) else (some false)) else (if t128 = true then (some false) else (some false)))) else (if t128 = true then (some false) else (some false))) = some r := H
              have A204 := Aside0.mk A2040
              clear A2040
              by_cases c205 : t147 = t131
              · rw [if_pos c205] at H
                have c205b0 : (t147 == t131) = true := beq_iff_eq.mpr c205
                have c205b1 : (t147 != t131) = false := bne_eq_false_iff_eq.mpr c205
                clear c205
                by_cases c206 : a1 = 0
                · rw [if_pos c206] at H
                  have c206b0 : (a1 == 0) = true := beq_iff_eq.mpr c206
                  have c206b1 : (a1 != 0) = false := bne_eq_false_iff_eq.mpr c206
                  clear c206
                  by_cases c207 : t128 = true
                  · subst c207
                    have H1 : (some false) = some r := by rw [if_pos rfl] at H; exact H
                    clear H
                    have H := H1
                    clear H1
                    exact absurd ((Option.some.inj H).trans hr_) (by simp)
                  · replace c207 := Bool.eq_false_iff.mpr c207
                    subst c207
                    have H1 : (some false) = some r := by rw [if_neg (show ¬ (false = true) by decide)] at H; exact H
                    clear H
                    have H := H1
                    clear H1
                    exact absurd ((Option.some.inj H).trans hr_) (by simp)
                · rw [if_neg c206] at H
                  have c206b0 : (a1 == 0) = false := beq_eq_false_iff_ne.mpr c206
                  have c206b1 : (a1 != 0) = true := bne_iff_ne.mpr c206
                  by_cases c208 : (wrap64 (Int.tdiv t131 a1)) = a0
                  · rw [if_pos c208] at H
                    have c208b0 : ((wrap64 (Int.tdiv t131 a1)) == a0) = true := beq_iff_eq.mpr c208
                    have c208b1 : ((wrap64 (Int.tdiv t131 a1)) != a0) = false := bne_eq_false_iff_eq.mpr c208
                    clear c208
                    by_cases c209 : t128 = true
                    · subst c209
                      have H1 : (some false) = some r := by rw [if_pos rfl] at H; exact H
                      clear H
                      have H := H1
                      clear H1
                      exact absurd ((Option.some.inj H).trans hr_) (by simp)
                    · replace c209 := Bool.eq_false_iff.mpr c209
                      subst c209
                      have H1 : (some false) = some r := by rw [if_neg (show ¬ (false = true) by decide)] at H; exact H
                      clear H
                      have H := H1
                      clear H1
                      exact absurd ((Option.some.inj H).trans hr_) (by simp)
                  · rw [if_neg c208] at H
                    have c208b0 : ((wrap64 (Int.tdiv t131 a1)) == a0) = false := beq_eq_false_iff_ne.mpr c208
                    have c208b1 : ((wrap64 (Int.tdiv t131 a1)) != a0) = true := bne_iff_ne.mpr c208
                    by_cases c210 : t128 = true
                    · subst c210
                      have H1 : (some false) = some r := by rw [if_pos rfl] at H; exact H
                      clear H
                      have H := H1
                      clear H1
                      exact absurd ((Option.some.inj H).trans hr_) (by simp)
                    · replace c210 := Bool.eq_false_iff.mpr c210
                      subst c210
                      have H1 : (some false) = some r := by rw [if_neg (show ¬ (false = true) by decide)] at H; exact H
                      clear H
                      have H := H1
                      clear H1
                      exact absurd ((Option.some.inj H).trans hr_) (by simp)
              · rw [if_neg c205] at H
                have c205b0 : (t147 == t131) = false := beq_eq_false_iff_ne.mpr c205
                have c205b1 : (t147 != t131) = true := bne_iff_ne.mpr c205
                by_cases c211 : t128 = true
                · subst c211
                  have H1 : (some false) = some r := by rw [if_pos rfl] at H; exact H
                  clear H
                  have H := H1
                  clear H1
                  exact absurd ((Option.some.inj H).trans hr_) (by simp)
                · replace c211 := Bool.eq_false_iff.mpr c211
                  subst c211
                  have H1 : (some false) = some r := by rw [if_neg (show ¬ (false = true) by decide)] at H; exact H
                  clear H
                  have H := H1
                  clear H1
                  exact absurd ((Option.some.inj H).trans hr_) (by simp)
            · rw [if_neg c203] at H
              have c203b0 : (t132 == 0) = false := beq_eq_false_iff_ne.mpr c203
              have c203b1 : (t132 != 0) = true := bne_iff_ne.mpr c203
              by_cases c212 : t128 = true
              · subst c212
                have H1 : (some false) = some r := by rw [if_pos rfl] at H; exact H
                clear H
                have H := H1
                clear H1
                exact absurd ((Option.some.inj H).trans hr_) (by simp)
              · replace c212 := Bool.eq_false_iff.mpr c212
                subst c212
                have H1 : (some false) = some r := by rw [if_neg (show ¬ (false = true) by decide)] at H; exact H
                clear H
                have H := H1
                clear H1
                exact absurd ((Option.some.inj H).trans hr_) (by simp)
        · rw [if_neg c200] at H
          have c200b0 : (t132 == 10) = false := beq_eq_false_iff_ne.mpr c200
          have c200b1 : (t132 != 10) = true := bne_iff_ne.mpr c200
          by_cases c213 : t132 = 0
          · rw [if_pos c213] at H
            have c213b0 : (t132 == 0) = true := beq_iff_eq.mpr c213
            have c213b1 : (t132 != 0) = false := bne_eq_false_iff_eq.mpr c213
            clear c213
            replace H := Option.bind_eq_some_iff.mp H
            obtain ⟨t148, A2140, H⟩ := H
            replace H : (if t148 = t131 then (if a1 = 0 then (if t128 = true then (some false) else (some false)) else (if (wrap64 (Int.tdiv t131 a1)) = a0 then (if t128 = true then (some false) else (some false)) else (if t128 = true then (some false) else (some false)))) else (if t128 = true then (some false) else (some false))) = some r := H
            have A214 := Aside0.mk A2140
            clear A2140
            by_cases c215 : t148 = t131
            · rw [if_pos c215] at H
              have c215b0 : (t148 == t131) = true := beq_iff_eq.mpr c215
              have c215b1 : (t148 != t131) = false := bne_eq_false_iff_eq.mpr c215
              clear c215
              by_cases c216 : a1 = 0
              · rw [if_pos c216] at H
                have c216b0 : (a1 == 0) = true := beq_iff_eq.mpr c216
                have c216b1 : (a1 != 0) = false := bne_eq_false_iff_eq.mpr c216
                clear c216
                by_cases c217 : t128 = true
                · subst c217
                  have H1 : (some false) = some r := by rw [if_pos rfl] at H; exact H
                  clear H
                  have H := H1
                  clear H1
                  exact absurd ((Option.some.inj H).trans hr_) (by simp)
                · replace c217 := Bool.eq_false_iff.mpr c217
                  subst c217
                  have H1 : (some false) = some r := by rw [if_neg (show ¬ (false = true) by decide)] at H; exact H
                  clear H
                  have H := H1
                  clear H1
                  exact absurd ((Option.some.inj H).trans hr_) (by simp)
              · rw [if_neg c216] at H
                have c216b0 : (a1 == 0) = false := beq_eq_false_iff_ne.mpr c216
                have c216b1 : (a1 != 0) = true := bne_iff_ne.mpr c216
                by_cases c218 : (wrap64 (Int.tdiv t131 a1)) = a0
                · rw [if_pos c218] at H
                  have c218b0 : ((wrap64 (Int.tdiv t131 a1)) == a0) = true := beq_iff_eq.mpr c218
                  have c218b1 : ((wrap64 (Int.tdiv t131 a1)) != a0) = false := bne_eq_false_iff_eq.mpr c218
                  clear c218
                  by_cases c219 : t128 = true
                  · subst c219
                    have H1 : (some false) = some r := by rw [if_pos rfl] at H; exact H
                    clear H
                    have H := H1
                    clear H1
                    exact absurd ((Option.some.inj H).trans hr_) (by simp)
                  · replace c219 := Bool.eq_false_iff.mpr c219
                    subst c219
                    have H1 : (some false) = some r := by rw [if_neg (show ¬ (false = true) by decide)] at H; exact H
                    clear H
                    have H := H1
                    clear H1
                    exact absurd ((Option.some.inj H).trans hr_) (by simp)
                · rw [if_neg c218] at H
                  have c218b0 : ((wrap64 (Int.tdiv t131 a1)) == a0) = false := beq_eq_false_iff_ne.mpr c218
                  have c218b1 : ((wrap64 (Int.tdiv t131 a1)) != a0) = true := bne_iff_ne.mpr c218
                  by_cases c220 : t128 = true
                  · subst c220
                    have H1 : (some false) = some r := by rw [if_pos rfl] at H; exact H
                    clear H
                    have H := H1
                    clear H1
                    exact absurd ((Option.some.inj H).trans hr_) (by simp)
                  · replace c220 := Bool.eq_false_iff.mpr c220
                    subst c220
                    have H1 : (some false) = some r := by rw [if_neg (show ¬ (false = true) by decide)] at H; exact H
                    clear H
                    have H := H1
                    clear H1
                    exact absurd ((Option.some.inj H).trans hr_) (by simp)
            · rw [if_neg c215] at H
              have c215b0 : (t148 == t131) = false := beq_eq_false_iff_ne.mpr c215
              have c215b1 : (t148 != t131) = true := bne_iff_ne.mpr c215
              by_cases c221 : t128 = true
              · subst c221
                have H1 : (some false) = some r := by rw [if_pos rfl] at H; exact H
                clear H
                have H := H1
                clear H1
                exact absurd ((Option.some.inj H).trans hr_) (by simp)
              · replace c221 := Bool.eq_false_iff.mpr c221
                subst c221
                have H1 : (some false) = some r := by rw [if_neg (show ¬ (false = true) by decide)] at H; exact H
                clear H
                have H := H1
                clear H1
                exact absurd ((Option.some.inj H).trans hr_) (by simp)
          · rw [if_neg c213] at H
            have c213b0 : (t132 == 0) = false := beq_eq_false_iff_ne.mpr c213
            have c213b1 : (t132 != 0) = true := bne_iff_ne.mpr c213
            by_cases c222 : t128 = true
            · subst c222
              have H1 : (some false) = some r := by rw [if_pos rfl] at H; exact H
              clear H
              have H := H1
              clear H1
              exact absurd ((Option.some.inj H).trans hr_) (by simp)
            · replace c222 := Bool.eq_false_iff.mpr c222
              subst c222
              have H1 : (some false) = some r := by rw [if_neg (show ¬ (false = true) by decide)] at H; exact H
              clear H
              have H := H1
              clear H1
              exact absurd ((Option.some.inj H).trans hr_) (by simp)
    · rw [if_neg c143] at H
      have c143b0 : (t130 == 0) = false := beq_eq_false_iff_ne.mpr c143
      have c143b1 : (t130 != 0) = true := bne_iff_ne.mpr c143
      by_cases c223 : t132 = 10
      · rw [if_pos c223] at H
        have c223b0 : (t132 == 10) = true := beq_iff_eq.mpr c223
        have c223b1 : (t132 != 10) = false := bne_eq_false_iff_eq.mpr c223
        clear c223
        by_cases c224 : t131 = 0
        · rw [if_pos c224] at H
          have c224b0 : (t131 == 0) = true := beq_iff_eq.mpr c224
          have c224b1 : (t131 != 0) = false := bne_eq_false_iff_eq.mpr c224
          clear c224
          by_cases c225 : t128 = true
          · subst c225
            have H1 : (some false) = some r := by rw [if_pos rfl] at H; exact H
            clear H
            have H := H1
            clear H1
            exact absurd ((Option.some.inj H).trans hr_) (by simp)
          · replace c225 := Bool.eq_false_iff.mpr c225
            subst c225
            have H1 : (some false) = some r := by rw [if_neg (show ¬ (false = true) by decide)] at H; exact H
            clear H
            have H := H1
            clear H1
            exact absurd ((Option.some.inj H).trans hr_) (by simp)
        · rw [if_neg c224] at H
          have c224b0 : (t131 == 0) = false := beq_eq_false_iff_ne.mpr c224
          have c224b1 : (t131 != 0) = true := bne_iff_ne.mpr c224
          by_cases c226 : t132 = 0
          · rw [if_pos c226] at H
            have c226b0 : (t132 == 0) = true := beq_iff_eq.mpr c226
            have c226b1 : (t132 != 0) = false := bne_eq_false_iff_eq.mpr c226
            clear c226
            replace H := Option.bind_eq_some_iff.mp H
            obtain ⟨t149, A2270, H⟩ := H
            replace H : (if t149 = t131 then (if a1 = 0 then (if t128 = true then (some false) else (some false)) else (if (wrap64 (Int.tdiv t131 a1)) = a0 then (if t128 = true then (some false) else (some false)) else (if t128 = true then (some false) else (some false)))) else (if t128 = true then (some false) else (some false))) = some r := H
            have A227 := Aside0.mk A2270
            clear A2270
            by_cases c228 : t149 = t131
            · rw [if_pos c228] at H
              have c228b0 : (t149 == t131) = true := beq_iff_eq.mpr c228
              have c228b1 : (t149 != t131) = false := bne_eq_false_iff_eq.mpr c228
              clear c228
              by_cases c229 : a1 = 0
              · rw [if_pos c229] at H
                have c229b0 : (a1 == 0) = true := beq_iff_eq.mpr c229
                have c229b1 : (a1 != 0) = false := bne_eq_false_iff_eq.mpr c229
                clear c229
                by_cases c230 : t128 = true
                · subst c230
                  have H1 : (some false) = some r := by rw [if_pos rfl] at H; exact H
                  clear H
                  have H := H1
                  clear H1
                  exact absurd ((Option.some.inj H).trans hr_) (by simp)
                · replace c230 := Bool.eq_false_iff.mpr c230
                  subst c230
                  have H1 : (some false) = some r := by rw [if_neg (show ¬ (false = true) by decide)] at H; exact H
                  clear H
                  have H := H1
                  clear H1
                  exact absurd ((Option.some.inj H).trans hr_) (by simp)
              · rw [if_neg c229] at H
                have c229b0 : (a1 == 0) = false := beq_eq_false_iff_ne.mpr c229
                have c229b1 : (a1 != 0) = true := bne_iff_ne.mpr c229
                by_cases c231 : (wrap64 (Int.tdiv t131 a1)) = a0
                · rw [if_pos c231] at H
                  have c231b0 : ((wrap64 (Int.tdiv t131 a1)) == a0) = true := beq_iff_eq.mpr c231
                  have c231b1 : ((wrap64 (Int.tdiv t131 a1)) != a0) = false := bne_eq_false_iff_eq.mpr c231
                  clear c231
                  by_cases c232 : t128 = true
                  · subst c232
                    have H1 : (some false) = some r := by rw [if_pos rfl] at H; exact H
                    clear H
                    have H := H1
                    clear H1
                    exact absurd ((Option.some.inj H).trans hr_) (by simp)
                  · replace c232 := Bool.eq_false_iff.mpr c232
                    subst c232
                    have H1 : (some false) = some r := by rw [if_neg (show ¬ (false = true) by decide)] at H; exact H
                    clear H
                    have H := H1
                    clear H1
                    exact absurd ((Option.some.inj H).trans hr_) (by simp)
                · rw [if_neg c231] at H
                  have c231b0 : ((wrap64 (Int.tdiv t131 a1)) == a0) = false := beq_eq_false_iff_ne.mpr c231
                  have c231b1 : ((wrap64 (Int.tdiv t131 a1)) != a0) = true := bne_iff_ne.mpr c231
                  by_cases c233 : t128 = true
                  · subst c233
                    have H1 : (some false) = some r := by rw [if_pos rfl] at H; exact H
                    clear H
                    have H := H1
                    clear H1
                    exact absurd ((Option.some.inj H).trans hr_) (by simp)
                  · replace c233 := Bool.eq_false_iff.mpr c233
                    subst c233
                    have H1 : (some false) = some r := by rw [if_neg (show ¬ (false = true) by decide)] at H; exact H
                    clear H
                    have H := H1
                    clear H1
                    exact absurd ((Option.some.inj H).trans hr_) (by simp)
            · rw [if_neg c228] at H
              have c228b0 : (t149 == t131) = false := beq_eq_false_iff_ne.mpr c228
              have c228b1 : (t149 != t131) = true := bne_iff_ne.mpr c228
              by_cases c234 : t128 = true
              · subst c234
                have H1 : (some false) = some r := by rw [if_pos rfl] at H; exact H
                clear H
                have H := H1
                clear H1
                exact absurd ((Option.some.inj H).trans hr_) (by simp)
              · replace c234 := Bool.eq_false_iff.mpr c234
                subst c234
                have H1 : (some false) = some r := by rw [if_neg (show ¬ (false = true) by decide)] at H; exact H
                clear H
                have H := H1
                clear H1
                exact absurd ((Option.some.inj H).trans hr_) (by simp)
          · rw [if_neg c226] at H
            have c226b0 : (t132 == 0) = false := beq_eq_false_iff_ne.mpr c226
            have c226b1 : (t132 != 0) = true := bne_iff_ne.mpr c226
            by_cases c235 : t128 = true
            · subst c235
              have H1 : (some false) = some r := by rw [if_pos rfl] at H; exact H
              clear H
              have H := H1
              clear H1
              exact absurd ((Option.some.inj H).trans hr_) (by simp)
            · replace c235 := Bool.eq_false_iff.mpr c235
              subst c235
              have H1 : (some false) = some r := by rw [if_neg (show ¬ (false = true) by decide)] at H; exact H
              clear H
              have H := H1
              clear H1
              exact absurd ((Option.some.inj H).trans hr_) (by simp)
      · rw [if_neg c223] at H
        have c223b0 : (t132 == 10) = false := beq_eq_false_iff_ne.mpr c223
        have c223b1 : (t132 != 10) = true := bne_iff_ne.mpr c223
        by_cases c236 : t132 = 0
        · rw [if_pos c236] at H
          have c236b0 : (t132 == 0) = true := beq_iff_eq.mpr c236
          have c236b1 : (t132 != 0) = false := bne_eq_false_iff_eq.mpr c236
          clear c236
          replace H := Option.bind_eq_some_iff.mp H
          obtain ⟨t150, A2370, H⟩ := H
          replace H : (if t150 = t131 then (if a1 = 0 then (if t128 = true then (some false) else (some false)) else (if (wrap64 (Int.tdiv t131 a1)) = a0 then (if t128 = true then (some false) else (some false)) else (if t128 = true then (some false) else (some false)))) else (if t128 = true then (some false) else (some false))) = some r := H
          have A237 := Aside0.mk A2370
          clear A2370
          by_cases c238 : t150 = t131
          · rw [if_pos c238] at H
            have c238b0 : (t150 == t131) = true := beq_iff_eq.mpr c238
            have c238b1 : (t150 != t131) = false := bne_eq_false_iff_eq.mpr c238
            clear c238
            by_cases c239 : a1 = 0
            · rw [if_pos c239] at H
              have c239b0 : (a1 == 0) = true := beq_iff_eq.mpr c239
              have c239b1 : (a1 != 0) = false := bne_eq_false_iff_eq.mpr c239
              clear c239
              by_cases c240 : t128 = true
              · subst c240
                have H1 : (some false) = some r := by rw [if_pos rfl] at H; exact H
                clear H
                have H := H1
                clear H1
                exact absurd ((Option.some.inj H).trans hr_) (by simp)
              · replace c240 := Bool.eq_false_iff.mpr c240
                subst c240
                have H1 : (some false) = some r := by rw [if_neg (show ¬ (false = true) by decide)] at H; exact H
                clear H
                have H := H1
                clear H1
                exact absurd ((Option.some.inj H).trans hr_) (by simp)
            · rw [if_neg c239] at H
              have c239b0 : (a1 == 0) = false := beq_eq_false_iff_ne.mpr c239
              have c239b1 : (a1 != 0) = true := bne_iff_ne.mpr c239
              by_cases c241 : (wrap64 (Int.tdiv t131 a1)) = a0
              · rw [if_pos c241] at H
                have c241b0 : ((wrap64 (Int.tdiv t131 a1)) == a0) = true := beq_iff_eq.mpr c241
                have c241b1 : ((wrap64 (Int.tdiv t131 a1)) != a0) = false := bne_eq_false_iff_eq.mpr c241
                clear c241
                by_cases c242 : t128 = true
                · subst c242
                  have H1 : (some false) = some r := by rw [if_pos rfl] at H; exact H
                  clear H
                  have H := H1
                  clear H1
                  exact absurd ((Option.some.inj H).trans hr_) (by simp)
                · replace c242 := Bool.eq_false_iff.mpr c242
                  subst c242
                  have H1 : (some false) = some r := by rw [if_neg (show ¬ (false = true) by decide)] at H; exact H
                  clear H
                  have H := H1
                  clear H1
                  exact absurd ((Option.some.inj H).trans hr_) (by simp)
              · rw [if_neg c241] at H
                have c241b0 : ((wrap64 (Int.tdiv t131 a1)) == a0) = false := beq_eq_false_iff_ne.mpr c241
                have c241b1 : ((wrap64 (Int.tdiv t131 a1)) != a0) = true := bne_iff_ne.mpr c241
                by_cases c243 : t128 = true
                · subst c243
                  have H1 : (some false) = some r := by rw [if_pos rfl] at H; exact H
                  clear H
                  have H := H1
                  clear H1
                  exact absurd ((Option.some.inj H).trans hr_) (by simp)
                · replace c243 := Bool.eq_false_iff.mpr c243
                  subst c243
                  have H1 : (some false) = some r := by rw [if_neg (show ¬ (false = true) by decide)] at H; exact H
                  clear H
                  have H := H1
                  clear H1
                  exact absurd ((Option.some.inj H).trans hr_) (by simp)
          · rw [if_neg c238] at H
            have c238b0 : (t150 == t131) = false := beq_eq_false_iff_ne.mpr c238
            have c238b1 : (t150 != t131) = true := bne_iff_ne.mpr c238
            by_cases c244 : t128 = true
            · subst c244
              have H1 : (some false) = some r := by rw [if_pos rfl] at H; exact H
              clear H
              have H := H1
              clear H1
              exact absurd ((Option.some.inj H).trans hr_) (by simp)
            · replace c244 := Bool.eq_false_iff.mpr c244
              subst c244
              have H1 : (some false) = some r := by rw [if_neg (show ¬ (false = true) by decide)] at H; exact H
              clear H
              have H := H1
              clear H1
              exact absurd ((Option.some.inj H).trans hr_) (by simp)
        · rw [if_neg c236] at H
          have c236b0 : (t132 == 0) = false := beq_eq_false_iff_ne.mpr c236
          have c236b1 : (t132 != 0) = true := bne_iff_ne.mpr c236
          by_cases c245 : t128 = true
          · subst c245
            have H1 : (some false) = some r := by rw [if_pos rfl] at H; exact H
            clear H
            have H := H1
            clear H1
            exact absurd ((Option.some.inj H).trans hr_) (by simp)
          · replace c245 := Bool.eq_false_iff.mpr c245
            subst c245
            have H1 : (some false) = some r := by rw [if_neg (show ¬ (false = true) by decide)] at H; exact H
            clear H
            have H := H1
            clear H1
            exact absurd ((Option.some.inj H).trans hr_) (by simp)

/-- THE ONE PURE STATEMENT of sawtoothlaw01_SafeBack: yours. -/
def sawtoothlaw01_SafeBack.Pure : Prop := ∀ (a0 : Int) (a1 : Int), (Lit.int .i64 a0).wf = true → (Lit.int .i64 a1).wf = true → sawtoothlaw01_SafeBack.f a0 a1 = some true
theorem sawtoothlaw01_SafeBack.walk (P : sawtoothlaw01_SafeBack.Pure) (a0 : Int) (a1 : Int) (w : World) (w0 : (Lit.int .i64 a0).wf = true) (w1 : (Lit.int .i64 a1).wf = true) :
    Calls Try.prog 4 #[.int .i64 a0, .int .i64 a1] w fun e w' => e = .returned (.bool true) ∧ Below w.heap.size w w' := by
  have h := P a0 a1 w0 w1
  refine (sawtoothlaw01_SafeBack.calls a0 a1 true w h rfl).mono ?_
  rintro e w' ⟨rfl, hd⟩
  exact ⟨rfl, hd⟩

end Go.Proofs.Ytdgnhmghniloiaa.Hp
