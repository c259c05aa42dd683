/- Functions of the program as Lean functions, each with its contract: the call comes to that answer. Told by wip/tools/handprint.py of this session. -/
import Derived.Test.YtjanmaddjjhjbaaHpx0
import Derived.Test.YtjanmaddjjhjbaaHpx1
import Derived.Test.YtjanmaddjjhjbaaHpx7
import Derived.Test.YtjanmaddjjhjbaaHpx8
import Derived.Test.YtjanmaddjjhjbaaHpx9
namespace Go.Proofs.Ytjanmaddjjhjbaa.Hp
open Go.RowKit Go.Proofs.YtjanmaddjjhjbaaW.PrintWords Go.Proofs.YtjanmaddjjhjbaaW.PrintLast Go.Proofs.YtjanmaddjjhjbaaW.PrintMore
attribute [local go_sem] max2_int min2_int max_two min_two max_three min_three max_four min_four   -- for this text's walks alone
set_option linter.unusedVariables false
set_option linter.unusedSimpArgs false

attribute [local go_sem high] eqA23
/-! ### sawtoothlaw16_FlightAlike: function 7 -/
def sawtoothlaw16_FlightAlike.f (k : Nat) (a0_0 : Int) (a0_1 : Int) (a0_2 : Int) (l1 : List (S38)) (a2 : Int) (a3 : Int) : Option (Bool) := (sawtoothlaw16_awake.f k).bind fun t328 => (if (l1.length : Int) > 100 then (if t328 = true then (some true) else (some false)) else (if (wrap64 ((l1.length : Int) + 1)) = 0 then (none) else ((flight_Do.f k a0_0 a0_1 a0_2 l1).bind fun bt329 => (if 0 ≤ (Int.tmod (wrap64 (a2)) (wrap64 ((l1.length : Int) + 1))) then (if (Int.tmod (wrap64 (a2)) (wrap64 ((l1.length : Int) + 1))) ≤ (l1.length : Int) then ((flight_Do.f k a0_0 a0_1 a0_2 (l1.take ((Int.tmod (wrap64 (a2)) (wrap64 ((l1.length : Int) + 1))) : Int).toNat)).bind fun bt340 => ((flight_Do.f k bt340.1 bt340.2.1 bt340.2.2.1 (l1.drop ((Int.tmod (wrap64 (a2)) (wrap64 ((l1.length : Int) + 1))) : Int).toNat)).bind fun bt351 => ((flight_Do.f k a0_0 a0_1 a0_2 (([(⟨a3, 1, 1⟩ : S38)] : List (S38)))).bind fun bt361 => (if a3 ≥ 0 then (if a3 ≤ 2 then (if t328 = true then (if (bt329.1 == bt351.1 && (bt329.2.1 == bt351.2.1 && (bt329.2.2.1 == bt351.2.2.1))) = true then ((some (([] : List Int) : List Int)).bind fun y368 => (if y368.length + bt340.2.2.2.length < 17592186044416 then ((some (y368 ++ bt340.2.2.2 : List Int)).bind fun y371 => (if y371.length + bt351.2.2.2.length < 17592186044416 then ((sawtoothref16_Same.f k bt329.2.2.2 (y371 ++ bt351.2.2.2)).bind fun t377 => (if t377 = true then (some true) else (some false))) else (none))) else (none))) else (some false)) else (some false)) else (if (bt361.1 == a0_0 && (bt361.2.1 == a0_1 && (bt361.2.2.1 == a0_2))) = true then ((sawtoothref16_Same.f k bt361.2.2.2 (([201] : List Int))).bind fun t381 => (if t328 = true then (if (bt329.1 == bt351.1 && (bt329.2.1 == bt351.2.1 && (bt329.2.2.1 == bt351.2.2.1))) = true then ((some (([] : List Int) : List Int)).bind fun y382 => (if y382.length + bt340.2.2.2.length < 17592186044416 then ((some (y382 ++ bt340.2.2.2 : List Int)).bind fun y385 => (if y385.length + bt351.2.2.2.length < 17592186044416 then ((sawtoothref16_Same.f k bt329.2.2.2 (y385 ++ bt351.2.2.2)).bind fun t391 => (if t391 = true then (if t381 = true then (some true) else (some false)) else (some false))) else (none))) else (none))) else (some false)) else (some false))) else (if t328 = true then (if (bt329.1 == bt351.1 && (bt329.2.1 == bt351.2.1 && (bt329.2.2.1 == bt351.2.2.1))) = true then ((some (([] : List Int) : List Int)).bind fun y392 => (if y392.length + bt340.2.2.2.length < 17592186044416 then ((some (y392 ++ bt340.2.2.2 : List Int)).bind fun y395 => (if y395.length + bt351.2.2.2.length < 17592186044416 then ((sawtoothref16_Same.f k bt329.2.2.2 (y395 ++ bt351.2.2.2)).bind fun t401 => (if t401 = true then (some false) else (some false))) else (none))) else (none))) else (some false)) else (some false)))) else (if (bt361.1 == a0_0 && (bt361.2.1 == a0_1 && (bt361.2.2.1 == a0_2))) = true then ((sawtoothref16_Same.f k bt361.2.2.2 (([201] : List Int))).bind fun t405 => (if t328 = true then (if (bt329.1 == bt351.1 && (bt329.2.1 == bt351.2.1 && (bt329.2.2.1 == bt351.2.2.1))) = true then ((some (([] : List Int) : List Int)).bind fun y406 => (if y406.length + bt340.2.2.2.length < 17592186044416 then ((some (y406 ++ bt340.2.2.2 : List Int)).bind fun y409 => (if y409.length + bt351.2.2.2.length < 17592186044416 then ((sawtoothref16_Same.f k bt329.2.2.2 (y409 ++ bt351.2.2.2)).bind fun t415 => (if t415 = true then (if t405 = true then (some true) else (some false)) else (some false))) else (none))) else (none))) else (some false)) else (some false))) else (if t328 = true then (if (bt329.1 == bt351.1 && (bt329.2.1 == bt351.2.1 && (bt329.2.2.1 == bt351.2.2.1))) = true then ((some (([] : List Int) : List Int)).bind fun y416 => (if y416.length + bt340.2.2.2.length < 17592186044416 then ((some (y416 ++ bt340.2.2.2 : List Int)).bind fun y419 => (if y419.length + bt351.2.2.2.length < 17592186044416 then ((sawtoothref16_Same.f k bt329.2.2.2 (y419 ++ bt351.2.2.2)).bind fun t425 => (if t425 = true then (some false) else (some false))) else (none))) else (none))) else (some false)) else (some false))))))) else (none)) else (none)))))
theorem sawtoothlaw16_FlightAlike.mono : ∀ a0 a1 a2 a3 a4 a5 k, LeO (sawtoothlaw16_FlightAlike.f k a0 a1 a2 a3 a4 a5) (sawtoothlaw16_FlightAlike.f (k + 1) a0 a1 a2 a3 a4 a5) := by
  intro a0 a1 a2 a3 a4 a5 k
  unfold sawtoothlaw16_FlightAlike.f
  repeat' first
      | (with_reducible exact flight_Do.mono _ _ _ _ _)
      | (with_reducible exact sawtoothlaw16_awake.mono _)
      | (with_reducible exact sawtoothref16_Same.mono _ _ _)
      | (with_reducible exact LeO.refl _)
      | (with_reducible exact LeO.none _)
      | (with_reducible refine LeO.ite ?_ ?_)
      | (with_reducible refine LeO.bind ?_ (fun _ => ?_))
      | exact flight_Do.mono _ _ _ _ _
      | exact sawtoothlaw16_awake.mono _
      | exact sawtoothref16_Same.mono _ _ _
      | exact LeO.none _
      | refine LeO.ite ?_ ?_
      | refine LeO.bind ?_ (fun _ => ?_)
def sawtoothlaw16_FlightAlike.T6 : Bool × List (List Nat × List Nat) := (true, [([], []), ([], []), ([], []), ([1, 2], [1, 2]), ([0, 3], [0, 3]), ([4], [4]), ([5], [5]), ([5], [5]), ([], []), ([8, 6, 4, 0, 1, 2, 3, 4, 5, 6, 8], [6, 8]), ([7, 9, 0, 1, 2, 3, 4, 5, 6, 7, 8, 9], [7])])
def sawtoothlaw16_FlightAlike.B6 : List Nat := [0, 0, 0, 6, 15, 31, 63, 63, 0, 383, 1023]
theorem sawtoothlaw16_FlightAlike.tab6 : rtab .any (opsOf Try.f7 6) = sawtoothlaw16_FlightAlike.T6 := by kernel_rfl
theorem sawtoothlaw16_FlightAlike.bits6 : waitsOk sawtoothlaw16_FlightAlike.T6.2 sawtoothlaw16_FlightAlike.B6 = true := by kernel_rfl
def sawtoothlaw16_FlightAlike.T7 : Bool × List (List Nat × List Nat) := (true, [([], []), ([], []), ([], []), ([1, 2], [1, 2]), ([0, 3], [0, 3]), ([4], [4]), ([5], [5]), ([5], [5]), ([], []), ([8, 6, 4, 0, 1, 2, 3, 4, 5, 6, 8], [6, 8]), ([7, 9, 0, 1, 2, 3, 4, 5, 6, 7, 8, 9], [7])])
def sawtoothlaw16_FlightAlike.B7 : List Nat := [0, 0, 0, 6, 15, 31, 63, 63, 0, 383, 1023]
theorem sawtoothlaw16_FlightAlike.tab7 : rtab .any (opsOf Try.f7 7) = sawtoothlaw16_FlightAlike.T7 := by kernel_rfl
theorem sawtoothlaw16_FlightAlike.bits7 : waitsOk sawtoothlaw16_FlightAlike.T7.2 sawtoothlaw16_FlightAlike.B7 = true := by kernel_rfl
end Go.Proofs.Ytjanmaddjjhjbaa.Hp
