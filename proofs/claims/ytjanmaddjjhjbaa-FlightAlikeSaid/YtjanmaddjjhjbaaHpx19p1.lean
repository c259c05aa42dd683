/- Functions of the program as Lean functions, each with its contract: the call comes to that answer. Told by wip/tools/handprint.py of this session. -/
import Derived.Test.YtjanmaddjjhjbaaHpx19p0
namespace Go.Proofs.Ytjanmaddjjhjbaa.Hp
open Go.RowKit Go.Proofs.YtjanmaddjjhjbaaW.PrintWords Go.Proofs.YtjanmaddjjhjbaaW.PrintLast Go.Proofs.YtjanmaddjjhjbaaW.PrintMore
attribute [local go_sem] max2_int min2_int max_two min_two max_three min_three max_four min_four   -- for this text's walks alone
set_option linter.unusedVariables false
set_option linter.unusedSimpArgs false

attribute [local go_sem high] eqA23
set_option maxHeartbeats 8000000 in
set_option maxRecDepth 100000 in
theorem sawtoothlaw16_FlightAlike.callsp1 (k : Nat) (a0_0 : Int) (a0_1 : Int) (a0_2 : Int) (A1 : Option Addr) (c1 : Nat) (l1 : List (S38)) (a2 : Int) (a3 : Int) (r : Bool) (w : World) (hr1 : Kd.C k38 w A1 l1.length l1) (hc1 : l1.length ≤ c1) (h : sawtoothlaw16_FlightAlike.f k a0_0 a0_1 a0_2 l1 a2 a3 = some r) (hr_ : r = true) (hx_c20 : a3 ≥ 0) (hx_c21 : a3 ≤ 2) :
    Calls Try.prog 7 #[.agg #[.int .i64 a0_0, .int .i64 a0_1, .int .i64 a0_2], .slice A1 l1.length c1, .int .u8 a2, .int .i64 a3] w fun e w' => e = .returned (.bool r) ∧ Below w.heap.size w w' := by
  have hu23 := Try.underlying23
  have hu38 := Try.underlying38
  have HR1 := Aside0.mk hr1
  have HC1 := Aside0.mk hc1
  clear hr1 hc1
  have HB := Aside0.mk (Below.refl w.heap.size w)
  have H : ((sawtoothlaw16_awake.f k).bind fun t328 => (if (l1.length : Int) > 100 then (if t328 = true then (some true) else (some false)) else (if (wrap64 ((l1.length : Int) + 1)) = 0 then (none) else ((flight_Do.f k a0_0 a0_1 a0_2 l1).bind fun bt329 => (if 0 ≤ (Int.tmod (wrap64 (a2)) (wrap64 ((l1.length : Int) + 1))) then (if (Int.tmod (wrap64 (a2)) (wrap64 ((l1.length : Int) + 1))) ≤ (l1.length : Int) then ((flight_Do.f k a0_0 a0_1 a0_2 (l1.take ((Int.tmod (wrap64 (a2)) (wrap64 ((l1.length : Int) + 1))) : Int).toNat)).bind fun bt340 => ((flight_Do.f k bt340.1 bt340.2.1 bt340.2.2.1 (l1.drop ((Int.tmod (wrap64 (a2)) (wrap64 ((l1.length : Int) + 1))) : Int).toNat)).bind fun bt351 => ((flight_Do.f k a0_0 a0_1 a0_2 (([(⟨a3, 1, 1⟩ : S38)] : List (S38)))).bind fun bt361 => (if a3 ≥ 0 then (if a3 ≤ 2 then (if t328 = true then (if (bt329.1 == bt351.1 && (bt329.2.1 == bt351.2.1 && (bt329.2.2.1 == bt351.2.2.1))) = true then ((some (([] : List Int) : List Int)).bind fun y368 => (if y368.length + bt340.2.2.2.length < 17592186044416 then ((some (y368 ++ bt340.2.2.2 : List Int)).bind fun y371 => (if y371.length + bt351.2.2.2.length < 17592186044416 then ((sawtoothref16_Same.f k bt329.2.2.2 (y371 ++ bt351.2.2.2)).bind fun t377 => (if t377 = true then (some true) else (some false))) else (none))) else (none))) else (some false)) else (some false)) else (if (bt361.1 == a0_0 && (bt361.2.1 == a0_1 && (bt361.2.2.1 == a0_2))) = true then ((sawtoothref16_Same.f k bt361.2.2.2 (([201] : List Int))).bind fun t381 => (if t328 = true then (if (bt329.1 == bt351.1 && (bt329.2.1 == bt351.2.1 && (bt329.2.2.1 == bt351.2.2.1))) = true then ((some (([] : List Int) : List Int)).bind fun y382 => (if y382.length + bt340.2.2.2.length < 17592186044416 then ((some (y382 ++ bt340.2.2.2 : List Int)).bind fun y385 => (if y385.length + bt351.2.2.2.length < 17592186044416 then ((sawtoothref16_Same.f k bt329.2.2.2 (y385 ++ bt351.2.2.2)).bind fun t391 => (if t391 = true then (if t381 = true then (some true) else (some false)) else (some false))) else (none))) else (none))) else (some false)) else (some false))) else (if t328 = true then (if (bt329.1 == bt351.1 && (bt329.2.1 == bt351.2.1 && (bt329.2.2.1 == bt351.2.2.1))) = true then ((some (([] : List Int) : List Int)).bind fun y392 => (if y392.length + bt340.2.2.2.length < 17592186044416 then ((some (y392 ++ bt340.2.2.2 : List Int)).bind fun y395 => (if y395.length + bt351.2.2.2.length < 17592186044416 then ((sawtoothref16_Same.f k bt329.2.2.2 (y395 ++ bt351.2.2.2)).bind fun t401 => (if t401 = true then (some false) else (some false))) else (none))) else (none))) else (some false)) else (some false)))) else (if (bt361.1 == a0_0 && (bt361.2.1 == a0_1 && (bt361.2.2.1 == a0_2))) = true then ((sawtoothref16_Same.f k bt361.2.2.2 (([201] : List Int))).bind fun t405 => (if t328 = true then (if (bt329.1 == bt351.1 && (bt329.2.1 == bt351.2.1 && (bt329.2.2.1 == bt351.2.2.1))) = true then ((some (([] : List Int) : List Int)).bind fun y406 => (if y406.length + bt340.2.2.2.length < 17592186044416 then ((some (y406 ++ bt340.2.2.2 : List Int)).bind fun y409 => (if y409.length + bt351.2.2.2.length < 17592186044416 then ((sawtoothref16_Same.f k bt329.2.2.2 (y409 ++ bt351.2.2.2)).bind fun t415 => (if t415 = true then (if t405 = true then (some true) else (some false)) else (some false))) else (none))) else (none))) else (some false)) else (some false))) else (if t328 = true then (if (bt329.1 == bt351.1 && (bt329.2.1 == bt351.2.1 && (bt329.2.2.1 == bt351.2.2.1))) = true then ((some (([] : List Int) : List Int)).bind fun y416 => (if y416.length + bt340.2.2.2.length < 17592186044416 then ((some (y416 ++ bt340.2.2.2 : List Int)).bind fun y419 => (if y419.length + bt351.2.2.2.length < 17592186044416 then ((sawtoothref16_Same.f k bt329.2.2.2 (y419 ++ bt351.2.2.2)).bind fun t425 => (if t425 = true then (some false) else (some false))) else (none))) else (none))) else (some false)) else (some false))))))) else (none)) else (none)))))) = some r := h
  clear h
  replace H := Option.bind_eq_some_iff.mp H
  obtain ⟨t328, A50, H⟩ := H
  replace H : (if (l1.length : Int) > 100 then (if t328 = true then (some true) else (some false)) else (if (wrap64 ((l1.length : Int) + 1)) = 0 then (none) else ((flight_Do.f k a0_0 a0_1 a0_2 l1).bind fun bt329 => (if 0 ≤ (Int.tmod (wrap64 (a2)) (wrap64 ((l1.length : Int) + 1))) then (if (Int.tmod (wrap64 (a2)) (wrap64 ((l1.length : Int) + 1))) ≤ (l1.length : Int) then ((flight_Do.f k a0_0 a0_1 a0_2 (l1.take ((Int.tmod (wrap64 (a2)) (wrap64 ((l1.length : Int) + 1))) : Int).toNat)).bind fun bt340 => ((flight_Do.f k bt340.1 bt340.2.1 bt340.2.2.1 (l1.drop ((Int.tmod (wrap64 (a2)) (wrap64 ((l1.length : Int) + 1))) : Int).toNat)).bind fun bt351 => ((flight_Do.f k a0_0 a0_1 a0_2 (([(⟨a3, 1, 1⟩ : S38)] : List (S38)))).bind fun bt361 => (if a3 ≥ 0 then (if a3 ≤ 2 then (if t328 = true then (if (bt329.1 == bt351.1 && (bt329.2.1 == bt351.2.1 && (bt329.2.2.1 == bt351.2.2.1))) = true then ((some (([] : List Int) : List Int)).bind fun y368 => (if y368.length + bt340.2.2.2.length < 17592186044416 then ((some (y368 ++ bt340.2.2.2 : List Int)).bind fun y371 => (if y371.length + bt351.2.2.2.length < 17592186044416 then ((sawtoothref16_Same.f k bt329.2.2.2 (y371 ++ bt351.2.2.2)).bind fun t377 => (if t377 = true then (some true) else (some false))) else (none))) else (none))) else (some false)) else (some false)) else (if (bt361.1 == a0_0 && (bt361.2.1 == a0_1 && (bt361.2.2.1 == a0_2))) = true then ((sawtoothref16_Same.f k bt361.2.2.2 (([201] : List Int))).bind fun t381 => (if t328 = true then (if (bt329.1 == bt351.1 && (bt329.2.1 == bt351.2.1 && (bt329.2.2.1 == bt351.2.2.1))) = true then ((some (([] : List Int) : List Int)).bind fun y382 => (if y382.length + bt340.2.2.2.length < 17592186044416 then ((some (y382 ++ bt340.2.2.2 : List Int)).bind fun y385 => (if y385.length + bt351.2.2.2.length < 17592186044416 then ((sawtoothref16_Same.f k bt329.2.2.2 (y385 ++ bt351.2.2.2)).bind fun t391 => (if t391 = true then (if t381 = true then (some true) else (some false)) else (some false))) else (none))) else (none))) else (some false)) else (some false))) else (if t328 = true then (if (bt329.1 == bt351.1 && (bt329.2.1 == bt351.2.1 && (bt329.2.2.1 == bt351.2.2.1))) = true then ((some (([] : List Int) : List Int)).bind fun y392 => (if y392.length + bt340.2.2.2.length < 17592186044416 then ((some (y392 ++ bt340.2.2.2 : List Int)).bind fun y395 => (if y395.length + bt351.2.2.2.length < 17592186044416 then ((sawtoothref16_Same.f k bt329.2.2.2 (y395 ++ bt351.2.2.2)).bind fun t401 => (if t401 = true then (some false) else (some false))) else (none))) else (none))) else (some false)) else (some false)))) else (if (bt361.1 == a0_0 && (bt361.2.1 == a0_1 && (bt361.2.2.1 == a0_2))) = true then ((sawtoothref16_Same.f k bt361.2.2.2 (([201] : List Int))).bind fun t405 => (if t328 = true then (if (bt329.1 == bt351.1 && (bt329.2.1 == bt351.2.1 && (bt329.2.2.1 == bt351.2.2.1))) = true then ((some (([] : List Int) : List Int)).bind fun y406 => (if y406.length + bt340.2.2.2.length < 17592186044416 then ((some (y406 ++ bt340.2.2.2 : List Int)).bind fun y409 => (if y409.length + bt351.2.2.2.length < 17592186044416 then ((sawtoothref16_Same.f k bt329.2.2.2 (y409 ++ bt351.2.2.2)).bind fun t415 => (if t415 = true then (if t405 = true then (some true) else (some false)) else (some false))) else (none))) else (none))) else (some false)) else (some false))) else (if t328 = true then (if (bt329.1 == bt351.1 && (bt329.2.1 == bt351.2.1 && (bt329.2.2.1 == bt351.2.2.1))) = true then ((some (([] : List Int) : List Int)).bind fun y416 => (if y416.length + bt340.2.2.2.length < 17592186044416 then ((some (y416 ++ bt340.2.2.2 : List Int)).bind fun y419 => (if y419.length + bt351.2.2.2.length < 17592186044416 then ((sawtoothref16_Same.f k bt329.2.2.2 (y419 ++ bt351.2.2.2)).bind fun t425 => (if t425 = true then (some false) else (some false))) else (none))) else (none))) else (some false)) else (some false))))))) else (none)) else (none))))) = some r := H
  have A5 := Aside0.mk A50
  clear A50
  by_cases c6 : (l1.length : Int) > 100
  · rw [if_pos c6] at H
    have c6b0 : decide (100 < (l1.length : Int)) = true := decide_eq_true c6
    have c6b1 : decide (100 < l1.length) = true := decide_eq_true (by omega)
    clear c6
    by_cases c7 : t328 = true
    · subst c7
      have H1 : (some true) = some r := by rw [if_pos rfl] at H; exact H
      clear H
      have H := H1
      clear H1
      obtain rfl := Option.some.inj H
      go_enter Try.func7, Try.ntmps7
      go_wp2_with (first | ((with_reducible refine gate_dst (N := 4) rfl ?_); (try (refine gate_guard (by rfl) ?_; dsimp only)); refine box_event ?hg (N := 4) ?hd (cs := #[.int .i64 a0_0, .int .i64 a0_1, .int .i64 a0_2]) (t := 23) ?hr ?_; (case hd => rfl); (case hg => rfl); (case hr => first | (go_simp; done) | (go_simp; rfl)); intro gb327 hg w8 hbox hb; have n0_ := Aside0.mk (below_step (by repeat (first | (with_reducible first | exact HB.out | apply below_alloc | apply pw_below_drewN | apply below_drew1) | exact HB.out)) hb); have n1_ := Aside0.mk (hbox); have n2_ := Aside0.mk ((by rw [hg]; exact (below_size (by repeat (first | (with_reducible first | exact HB.out | apply below_alloc | apply pw_below_drewN | apply below_drew1) | exact HB.out))) : w.heap.size ≤ gb327)); have n3_ := Aside0.mk ((by rw [hg]; exact (below_size (by repeat (first | (with_reducible first | exact HB.out | apply below_alloc | apply pw_below_drewN | apply below_drew1) | exact HB.out))) : w.heap.size ≤ gb327)); clear HB; have HB := n0_; have BK327 := n1_; have GW327 := n2_; have GE327 := n3_; clear n0_ n1_ n2_ n3_; clear hb hbox hg) | ((with_reducible refine gate_callee (f := 9) rfl ?_); refine goesL_ (some 20) rfl rfl Try.func9 (by kernel_rfl) rfl #[] rfl (by (try simp only [List.map_toArray, List.map_cons, List.map_nil]); first | done | rfl | (simp only [List.length_drop, List.length_take]; rfl)) ?_; (with_reducible refine (sawtoothlaw16_awake.calls k  true _ A5.out).mono ?_); rintro e w9 ⟨rfl, hb⟩; refine ⟨_, rfl, ?_⟩; have n0_ := Aside0.mk (blk_below (g := gb327) (o := .cells #[.int .i64 a0_0, .int .i64 a0_1, .int .i64 a0_2] 23 (0, 0)) (by (with_reducible repeat (first | refine blk_drewN ?_ _ | refine blk_drew ?_ | refine blk_alloc ?_ _)); exact BK327.out) hb); have n1_ := Aside0.mk (below_step (by repeat (first | (with_reducible first | exact HB.out | apply below_alloc | apply pw_below_drewN | apply below_drew1 | refine below_set ?_ GE327.out) | exact HB.out)) hb); clear BK327; clear HB; have BK327 := n0_; have HB := n1_; clear n0_ n1_; (try clear hb); (try clear hb2); (try clear hk); (try clear hi)))
      go_ret
      exact ⟨by first | rfl | (simp [errW_none, errW_some] <;> rfl) | (simp [*, errW_none, errW_some] <;> rfl), by repeat (first | (with_reducible first | exact HB.out | apply below_alloc | apply pw_below_drewN | apply below_drew1 | refine below_set ?_ GE327.out) | exact HB.out)⟩
    · replace c7 := Bool.eq_false_iff.mpr c7
      subst c7
      have H1 : (some false) = some r := by rw [if_neg (show ¬ (false = true) by decide)] at H; exact H
      clear H
      have H := H1
      clear H1
      exact absurd ((Option.some.inj H).trans hr_) (by simp)
  · rw [if_neg c6] at H
    have c6b0 : decide (100 < (l1.length : Int)) = false := decide_eq_false c6
    have c6b1 : decide (100 < l1.length) = false := decide_eq_false (by omega)
    clear c6
    by_cases c10 : (wrap64 ((l1.length : Int) + 1)) = 0
    · rw [if_pos c10] at H
      exact absurd H (by simp)
    · rw [if_neg c10] at H
      have c10b0 : ((wrap64 ((l1.length : Int) + 1)) == 0) = false := beq_eq_false_iff_ne.mpr c10
      have c10b1 : ((wrap64 ((l1.length : Int) + 1)) != 0) = true := bne_iff_ne.mpr c10
      replace H := Option.bind_eq_some_iff.mp H
      obtain ⟨⟨t329, t330, t331, t332⟩, A110, H⟩ := H
      replace H : (if 0 ≤ (Int.tmod (wrap64 (a2)) (wrap64 ((l1.length : Int) + 1))) then (if (Int.tmod (wrap64 (a2)) (wrap64 ((l1.length : Int) + 1))) ≤ (l1.length : Int) then ((flight_Do.f k a0_0 a0_1 a0_2 (l1.take ((Int.tmod (wrap64 (a2)) (wrap64 ((l1.length : Int) + 1))) : Int).toNat)).bind fun bt340 => ((flight_Do.f k bt340.1 bt340.2.1 bt340.2.2.1 (l1.drop ((Int.tmod (wrap64 (a2)) (wrap64 ((l1.length : Int) + 1))) : Int).toNat)).bind fun bt351 => ((flight_Do.f k a0_0 a0_1 a0_2 (([(⟨a3, 1, 1⟩ : S38)] : List (S38)))).bind fun bt361 => (if a3 ≥ 0 then (if a3 ≤ 2 then (if t328 = true then (if (t329 == bt351.1 && (t330 == bt351.2.1 && (t331 == bt351.2.2.1))) = true then ((some (([] : List Int) : List Int)).bind fun y368 => (if y368.length + bt340.2.2.2.length < 17592186044416 then ((some (y368 ++ bt340.2.2.2 : List Int)).bind fun y371 => (if y371.length + bt351.2.2.2.length < 17592186044416 then ((sawtoothref16_Same.f k t332 (y371 ++ bt351.2.2.2)).bind fun t377 => (if t377 = true then (some true) else (some false))) else (none))) else (none))) else (some false)) else (some false)) else (if (bt361.1 == a0_0 && (bt361.2.1 == a0_1 && (bt361.2.2.1 == a0_2))) = true then ((sawtoothref16_Same.f k bt361.2.2.2 (([201] : List Int))).bind fun t381 => (if t328 = true then (if (t329 == bt351.1 && (t330 == bt351.2.1 && (t331 == bt351.2.2.1))) = true then ((some (([] : List Int) : List Int)).bind fun y382 => (if y382.length + bt340.2.2.2.length < 17592186044416 then ((some (y382 ++ bt340.2.2.2 : List Int)).bind fun y385 => (if y385.length + bt351.2.2.2.length < 17592186044416 then ((sawtoothref16_Same.f k t332 (y385 ++ bt351.2.2.2)).bind fun t391 => (if t391 = true then (if t381 = true then (some true) else (some false)) else (some false))) else (none))) else (none))) else (some false)) else (some false))) else (if t328 = true then (if (t329 == bt351.1 && (t330 == bt351.2.1 && (t331 == bt351.2.2.1))) = true then ((some (([] : List Int) : List Int)).bind fun y392 => (if y392.length + bt340.2.2.2.length < 17592186044416 then ((some (y392 ++ bt340.2.2.2 : List Int)).bind fun y395 => (if y395.length + bt351.2.2.2.length < 17592186044416 then ((sawtoothref16_Same.f k t332 (y395 ++ bt351.2.2.2)).bind fun t401 => (if t401 = true then (some false) else (some false))) else (none))) else (none))) else (some false)) else (some false)))) else (if (bt361.1 == a0_0 && (bt361.2.1 == a0_1 && (bt361.2.2.1 == a0_2))) = true then ((sawtoothref16_Same.f k bt361.2.2.2 (([201] : List Int))).bind fun t405 => (if t328 = true then (if (t329 == bt351.1 && (t330 == bt351.2.1 && (t331 == bt351.2.2.1))) = true then ((some (([] : List Int) : List Int)).bind fun y406 => (if y406.length + bt340.2.2.2.length < 17592186044416 then ((some (y406 ++ bt340.2.2.2 : List Int)).bind fun y409 => (if y409.length + bt351.2.2.2.length < 17592186044416 then ((sawtoothref16_Same.f k t332 (y409 ++ bt351.2.2.2)).bind fun t415 => (if t415 = true then (if t405 = true then (some true) else (some false)) else (some false))) else (none))) else (none))) else (some false)) else (some false))) else (if t328 = true then (if (t329 == bt351.1 && (t330 == bt351.2.1 && (t331 == bt351.2.2.1))) = true then ((some (([] : List Int) : List Int)).bind fun y416 => (if y416.length + bt340.2.2.2.length < 17592186044416 then ((some (y416 ++ bt340.2.2.2 : List Int)).bind fun y419 => (if y419.length + bt351.2.2.2.length < 17592186044416 then ((sawtoothref16_Same.f k t332 (y419 ++ bt351.2.2.2)).bind fun t425 => (if t425 = true then (some false) else (some false))) else (none))) else (none))) else (some false)) else (some false))))))) else (none)) else (none)) = some r := H
      have A11 := Aside0.mk A110
      clear A110
      obtain ⟨ji12, hji12⟩ : ∃ j_ : Int, (Int.tmod (wrap64 (a2)) (wrap64 ((l1.length : Int) + 1))) = j_ := ⟨_, rfl⟩
      replace H : (if 0 ≤ (ji12) then (if (ji12) ≤ (l1.length : Int) then ((flight_Do.f k a0_0 a0_1 a0_2 (l1.take ((ji12) : Int).toNat)).bind fun bt340 => ((flight_Do.f k bt340.1 bt340.2.1 bt340.2.2.1 (l1.drop ((ji12) : Int).toNat)).bind fun bt351 => ((flight_Do.f k a0_0 a0_1 a0_2 (([(⟨a3, 1, 1⟩ : S38)] : List (S38)))).bind fun bt361 => (if a3 ≥ 0 then (if a3 ≤ 2 then (if t328 = true then (if (t329 == bt351.1 && (t330 == bt351.2.1 && (t331 == bt351.2.2.1))) = true then ((some (([] : List Int) : List Int)).bind fun y368 => (if y368.length + bt340.2.2.2.length < 17592186044416 then ((some (y368 ++ bt340.2.2.2 : List Int)).bind fun y371 => (if y371.length + bt351.2.2.2.length < 17592186044416 then ((sawtoothref16_Same.f k t332 (y371 ++ bt351.2.2.2)).bind fun t377 => (if t377 = true then (some true) else (some false))) else (none))) else (none))) else (some false)) else (some false)) else (if (bt361.1 == a0_0 && (bt361.2.1 == a0_1 && (bt361.2.2.1 == a0_2))) = true then ((sawtoothref16_Same.f k bt361.2.2.2 (([201] : List Int))).bind fun t381 => (if t328 = true then (if (t329 == bt351.1 && (t330 == bt351.2.1 && (t331 == bt351.2.2.1))) = true then ((some (([] : List Int) : List Int)).bind fun y382 => (if y382.length + bt340.2.2.2.length < 17592186044416 then ((some (y382 ++ bt340.2.2.2 : List Int)).bind fun y385 => (if y385.length + bt351.2.2.2.length < 17592186044416 then ((sawtoothref16_Same.f k t332 (y385 ++ bt351.2.2.2)).bind fun t391 => (if t391 = true then (if t381 = true then (some true) else (some false)) else (some false))) else (none))) else (none))) else (some false)) else (some false))) else (if t328 = true then (if (t329 == bt351.1 && (t330 == bt351.2.1 && (t331 == bt351.2.2.1))) = true then ((some (([] : List Int) : List Int)).bind fun y392 => (if y392.length + bt340.2.2.2.length < 17592186044416 then ((some (y392 ++ bt340.2.2.2 : List Int)).bind fun y395 => (if y395.length + bt351.2.2.2.length < 17592186044416 then ((sawtoothref16_Same.f k t332 (y395 ++ bt351.2.2.2)).bind fun t401 => (if t401 = true then (some false) else (some false))) else (none))) else (none))) else (some false)) else (some false)))) else (if (bt361.1 == a0_0 && (bt361.2.1 == a0_1 && (bt361.2.2.1 == a0_2))) = true then ((sawtoothref16_Same.f k bt361.2.2.2 (([201] : List Int))).bind fun t405 => (if t328 = true then (if (t329 == bt351.1 && (t330 == bt351.2.1 && (t331 == bt351.2.2.1))) = true then ((some (([] : List Int) : List Int)).bind fun y406 => (if y406.length + bt340.2.2.2.length < 17592186044416 then ((some (y406 ++ bt340.2.2.2 : List Int)).bind fun y409 => (if y409.length + bt351.2.2.2.length < 17592186044416 then ((sawtoothref16_Same.f k t332 (y409 ++ bt351.2.2.2)).bind fun t415 => (if t415 = true then (if t405 = true then (some true) else (some false)) else (some false))) else (none))) else (none))) else (some false)) else (some false))) else (if t328 = true then (if (t329 == bt351.1 && (t330 == bt351.2.1 && (t331 == bt351.2.2.1))) = true then ((some (([] : List Int) : List Int)).bind fun y416 => (if y416.length + bt340.2.2.2.length < 17592186044416 then ((some (y416 ++ bt340.2.2.2 : List Int)).bind fun y419 => (if y419.length + bt351.2.2.2.length < 17592186044416 then ((sawtoothref16_Same.f k t332 (y419 ++ bt351.2.2.2)).bind fun t425 => (if t425 = true then (some false) else (some false))) else (none))) else (none))) else (some false)) else (some false))))))) else (none)) else (none)) = some r := by first | (rw [hji12] at H; exact H) | (simp only [hji12] at H ⊢; exact H)
      (try rw [hji12] at A5)
      (try rw [hji12] at A11)
      by_cases c13 : 0 ≤ (ji12)
      · rw [if_pos c13] at H
        have c13b0 := eq_true c13
        have c13b1 : decide (0 ≤ (ji12)) = true := decide_eq_true c13
        clear c13
        by_cases c14 : (ji12) ≤ (l1.length : Int)
        · rw [if_pos c14] at H
          have c14b0 := eq_true c14
          have c14b1 : decide ((ji12) ≤ (l1.length : Int)) = true := decide_eq_true c14
          clear c14
          obtain ⟨y336, hy336⟩ : ∃ y_ : List (S38), y_ = (l1.take ((ji12) : Int).toNat) := ⟨_, rfl⟩
          replace H : ((flight_Do.f k a0_0 a0_1 a0_2 y336).bind fun bt340 => ((flight_Do.f k bt340.1 bt340.2.1 bt340.2.2.1 (l1.drop ((ji12) : Int).toNat)).bind fun bt351 => ((flight_Do.f k a0_0 a0_1 a0_2 (([(⟨a3, 1, 1⟩ : S38)] : List (S38)))).bind fun bt361 => (if a3 ≥ 0 then (if a3 ≤ 2 then (if t328 = true then (if (t329 == bt351.1 && (t330 == bt351.2.1 && (t331 == bt351.2.2.1))) = true then ((some (([] : List Int) : List Int)).bind fun y368 => (if y368.length + bt340.2.2.2.length < 17592186044416 then ((some (y368 ++ bt340.2.2.2 : List Int)).bind fun y371 => (if y371.length + bt351.2.2.2.length < 17592186044416 then ((sawtoothref16_Same.f k t332 (y371 ++ bt351.2.2.2)).bind fun t377 => (if t377 = true then (some true) else (some false))) else (none))) else (none))) else (some false)) else (some false)) else (if (bt361.1 == a0_0 && (bt361.2.1 == a0_1 && (bt361.2.2.1 == a0_2))) = true then ((sawtoothref16_Same.f k bt361.2.2.2 (([201] : List Int))).bind fun t381 => (if t328 = true then (if (t329 == bt351.1 && (t330 == bt351.2.1 && (t331 == bt351.2.2.1))) = true then ((some (([] : List Int) : List Int)).bind fun y382 => (if y382.length + bt340.2.2.2.length < 17592186044416 then ((some (y382 ++ bt340.2.2.2 : List Int)).bind fun y385 => (if y385.length + bt351.2.2.2.length < 17592186044416 then ((sawtoothref16_Same.f k t332 (y385 ++ bt351.2.2.2)).bind fun t391 => (if t391 = true then (if t381 = true then (some true) else (some false)) else (some false))) else (none))) else (none))) else (some false)) else (some false))) else (if t328 = true then (if (t329 == bt351.1 && (t330 == bt351.2.1 && (t331 == bt351.2.2.1))) = true then ((some (([] : List Int) : List Int)).bind fun y392 => (if y392.length + bt340.2.2.2.length < 17592186044416 then ((some (y392 ++ bt340.2.2.2 : List Int)).bind fun y395 => (if y395.length + bt351.2.2.2.length < 17592186044416 then ((sawtoothref16_Same.f k t332 (y395 ++ bt351.2.2.2)).bind fun t401 => (if t401 = true then (some false) else (some false))) else (none))) else (none))) else (some false)) else (some false)))) else (if (bt361.1 == a0_0 && (bt361.2.1 == a0_1 && (bt361.2.2.1 == a0_2))) = true then ((sawtoothref16_Same.f k bt361.2.2.2 (([201] : List Int))).bind fun t405 => (if t328 = true then (if (t329 == bt351.1 && (t330 == bt351.2.1 && (t331 == bt351.2.2.1))) = true then ((some (([] : List Int) : List Int)).bind fun y406 => (if y406.length + bt340.2.2.2.length < 17592186044416 then ((some (y406 ++ bt340.2.2.2 : List Int)).bind fun y409 => (if y409.length + bt351.2.2.2.length < 17592186044416 then ((sawtoothref16_Same.f k t332 (y409 ++ bt351.2.2.2)).bind fun t415 => (if t415 = true then (if t405 = true then (some true) else (some false)) else (some false))) else (none))) else (none))) else (some false)) else (some false))) else (if t328 = true then (if (t329 == bt351.1 && (t330 == bt351.2.1 && (t331 == bt351.2.2.1))) = true then ((some (([] : List Int) : List Int)).bind fun y416 => (if y416.length + bt340.2.2.2.length < 17592186044416 then ((some (y416 ++ bt340.2.2.2 : List Int)).bind fun y419 => (if y419.length + bt351.2.2.2.length < 17592186044416 then ((sawtoothref16_Same.f k t332 (y419 ++ bt351.2.2.2)).bind fun t425 => (if t425 = true then (some false) else (some false))) else (none))) else (none))) else (some false)) else (some false))))))) = some r := by first | (rw [hy336]; with_reducible exact H) | (have H2_ := (Option.bind_some _ _).symm.trans H; rw [hy336]; with_reducible exact H2_) | (have H2_ := (Option.bind_some _ _).symm.trans H; with_reducible exact H2_) | with_reducible exact H | (rw [hy336]; exact H) | exact H
          have Ny336 := Aside0.mk hy336
          clear hy336
          replace H := Option.bind_eq_some_iff.mp H
          obtain ⟨⟨t340, t341, t342, t343⟩, A150, H⟩ := H
          replace H : ((flight_Do.f k t340 t341 t342 (l1.drop ((ji12) : Int).toNat)).bind fun bt351 => ((flight_Do.f k a0_0 a0_1 a0_2 (([(⟨a3, 1, 1⟩ : S38)] : List (S38)))).bind fun bt361 => (if a3 ≥ 0 then (if a3 ≤ 2 then (if t328 = true then (if (t329 == bt351.1 && (t330 == bt351.2.1 && (t331 == bt351.2.2.1))) = true then ((some (([] : List Int) : List Int)).bind fun y368 => (if y368.length + t343.length < 17592186044416 then ((some (y368 ++ t343 : List Int)).bind fun y371 => (if y371.length + bt351.2.2.2.length < 17592186044416 then ((sawtoothref16_Same.f k t332 (y371 ++ bt351.2.2.2)).bind fun t377 => (if t377 = true then (some true) else (some false))) else (none))) else (none))) else (some false)) else (some false)) else (if (bt361.1 == a0_0 && (bt361.2.1 == a0_1 && (bt361.2.2.1 == a0_2))) = true then ((sawtoothref16_Same.f k bt361.2.2.2 (([201] : List Int))).bind fun t381 => (if t328 = true then (if (t329 == bt351.1 && (t330 == bt351.2.1 && (t331 == bt351.2.2.1))) = true then ((some (([] : List Int) : List Int)).bind fun y382 => (if y382.length + t343.length < 17592186044416 then ((some (y382 ++ t343 : List Int)).bind fun y385 => (if y385.length + bt351.2.2.2.length < 17592186044416 then ((sawtoothref16_Same.f k t332 (y385 ++ bt351.2.2.2)).bind fun t391 => (if t391 = true then (if t381 = true then (some true) else (some false)) else (some false))) else (none))) else (none))) else (some false)) else (some false))) else (if t328 = true then (if (t329 == bt351.1 && (t330 == bt351.2.1 && (t331 == bt351.2.2.1))) = true then ((some (([] : List Int) : List Int)).bind fun y392 => (if y392.length + t343.length < 17592186044416 then ((some (y392 ++ t343 : List Int)).bind fun y395 => (if y395.length + bt351.2.2.2.length < 17592186044416 then ((sawtoothref16_Same.f k t332 (y395 ++ bt351.2.2.2)).bind fun t401 => (if t401 = true then (some false) else (some false))) else (none))) else (none))) else (some false)) else (some false)))) else (if (bt361.1 == a0_0 && (bt361.2.1 == a0_1 && (bt361.2.2.1 == a0_2))) = true then ((sawtoothref16_Same.f k bt361.2.2.2 (([201] : List Int))).bind fun t405 => (if t328 = true then (if (t329 == bt351.1 && (t330 == bt351.2.1 && (t331 == bt351.2.2.1))) = true then ((some (([] : List Int) : List Int)).bind fun y406 => (if y406.length + t343.length < 17592186044416 then ((some (y406 ++ t343 : List Int)).bind fun y409 => (if y409.length + bt351.2.2.2.length < 17592186044416 then ((sawtoothref16_Same.f k t332 (y409 ++ bt351.2.2.2)).bind fun t415 => (if t415 = true then (if t405 = true then (some true) else (some false)) else (some false))) else (none))) else (none))) else (some false)) else (some false))) else (if t328 = true then (if (t329 == bt351.1 && (t330 == bt351.2.1 && (t331 == bt351.2.2.1))) = true then ((some (([] : List Int) : List Int)).bind fun y416 => (if y416.length + t343.length < 17592186044416 then ((some (y416 ++ t343 : List Int)).bind fun y419 => (if y419.length + bt351.2.2.2.length < 17592186044416 then ((sawtoothref16_Same.f k t332 (y419 ++ bt351.2.2.2)).bind fun t425 => (if t425 = true then (some false) else (some false))) else (none))) else (none))) else (some false)) else (some false)))))) = some r := H
          have A15 := Aside0.mk A150
          clear A150
          have c16b0 := eq_true (of_decide_eq_true (by first | (with_reducible assumption) | assumption) : 0 ≤ (ji12))
          have c17b0 := eq_true (of_decide_eq_true (by first | (with_reducible assumption) | assumption) : (ji12) ≤ (l1.length : Int))
          obtain ⟨y347, hy347⟩ : ∃ y_ : List (S38), y_ = (l1.drop ((ji12) : Int).toNat) := ⟨_, rfl⟩
          replace H : ((flight_Do.f k t340 t341 t342 y347).bind fun bt351 => ((flight_Do.f k a0_0 a0_1 a0_2 (([(⟨a3, 1, 1⟩ : S38)] : List (S38)))).bind fun bt361 => (if a3 ≥ 0 then (if a3 ≤ 2 then (if t328 = true then (if (t329 == bt351.1 && (t330 == bt351.2.1 && (t331 == bt351.2.2.1))) = true then ((some (([] : List Int) : List Int)).bind fun y368 => (if y368.length + t343.length < 17592186044416 then ((some (y368 ++ t343 : List Int)).bind fun y371 => (if y371.length + bt351.2.2.2.length < 17592186044416 then ((sawtoothref16_Same.f k t332 (y371 ++ bt351.2.2.2)).bind fun t377 => (if t377 = true then (some true) else (some false))) else (none))) else (none))) else (some false)) else (some false)) else (if (bt361.1 == a0_0 && (bt361.2.1 == a0_1 && (bt361.2.2.1 == a0_2))) = true then ((sawtoothref16_Same.f k bt361.2.2.2 (([201] : List Int))).bind fun t381 => (if t328 = true then (if (t329 == bt351.1 && (t330 == bt351.2.1 && (t331 == bt351.2.2.1))) = true then ((some (([] : List Int) : List Int)).bind fun y382 => (if y382.length + t343.length < 17592186044416 then ((some (y382 ++ t343 : List Int)).bind fun y385 => (if y385.length + bt351.2.2.2.length < 17592186044416 then ((sawtoothref16_Same.f k t332 (y385 ++ bt351.2.2.2)).bind fun t391 => (if t391 = true then (if t381 = true then (some true) else (some false)) else (some false))) else (none))) else (none))) else (some false)) else (some false))) else (if t328 = true then (if (t329 == bt351.1 && (t330 == bt351.2.1 && (t331 == bt351.2.2.1))) = true then ((some (([] : List Int) : List Int)).bind fun y392 => (if y392.length + t343.length < 17592186044416 then ((some (y392 ++ t343 : List Int)).bind fun y395 => (if y395.length + bt351.2.2.2.length < 17592186044416 then ((sawtoothref16_Same.f k t332 (y395 ++ bt351.2.2.2)).bind fun t401 => (if t401 = true then (some false) else (some false))) else (none))) else (none))) else (some false)) else (some false)))) else (if (bt361.1 == a0_0 && (bt361.2.1 == a0_1 && (bt361.2.2.1 == a0_2))) = true then ((sawtoothref16_Same.f k bt361.2.2.2 (([201] : List Int))).bind fun t405 => (if t328 = true then (if (t329 == bt351.1 && (t330 == bt351.2.1 && (t331 == bt351.2.2.1))) = true then ((some (([] : List Int) : List Int)).bind fun y406 => (if y406.length + t343.length < 17592186044416 then ((some (y406 ++ t343 : List Int)).bind fun y409 => (if y409.length + bt351.2.2.2.length < 17592186044416 then ((sawtoothref16_Same.f k t332 (y409 ++ bt351.2.2.2)).bind fun t415 => (if t415 = true then (if t405 = true then (some true) else (some false)) else (some false))) else (none))) else (none))) else (some false)) else (some false))) else (if t328 = true then (if (t329 == bt351.1 && (t330 == bt351.2.1 && (t331 == bt351.2.2.1))) = true then ((some (([] : List Int) : List Int)).bind fun y416 => (if y416.length + t343.length < 17592186044416 then ((some (y416 ++ t343 : List Int)).bind fun y419 => (if y419.length + bt351.2.2.2.length < 17592186044416 then ((sawtoothref16_Same.f k t332 (y419 ++ bt351.2.2.2)).bind fun t425 => (if t425 = true then (some false) else (some false))) else (none))) else (none))) else (some false)) else (some false)))))) = some r := by first | (rw [hy347]; with_reducible exact H) | (have H2_ := (Option.bind_some _ _).symm.trans H; rw [hy347]; with_reducible exact H2_) | (have H2_ := (Option.bind_some _ _).symm.trans H; with_reducible exact H2_) | with_reducible exact H | (rw [hy347]; exact H) | exact H
          have Ny347 := Aside0.mk hy347
          clear hy347
          replace H := Option.bind_eq_some_iff.mp H
          obtain ⟨⟨t351, t352, t353, t354⟩, A180, H⟩ := H
          replace H : ((flight_Do.f k a0_0 a0_1 a0_2 (([(⟨a3, 1, 1⟩ : S38)] : List (S38)))).bind fun bt361 => (if a3 ≥ 0 then (if a3 ≤ 2 then (if t328 = true then (if (t329 == t351 && (t330 == t352 && (t331 == t353))) = true then ((some (([] : List Int) : List Int)).bind fun y368 => (if y368.length + t343.length < 17592186044416 then ((some (y368 ++ t343 : List Int)).bind fun y371 => (if y371.length + t354.length < 17592186044416 then ((sawtoothref16_Same.f k t332 (y371 ++ t354)).bind fun t377 => (if t377 = true then (some true) else (some false))) else (none))) else (none))) else (some false)) else (some false)) else (if (bt361.1 == a0_0 && (bt361.2.1 == a0_1 && (bt361.2.2.1 == a0_2))) = true then ((sawtoothref16_Same.f k bt361.2.2.2 (([201] : List Int))).bind fun t381 => (if t328 = true then (if (t329 == t351 && (t330 == t352 && (t331 == t353))) = true then ((some (([] : List Int) : List Int)).bind fun y382 => (if y382.length + t343.length < 17592186044416 then ((some (y382 ++ t343 : List Int)).bind fun y385 => (if y385.length + t354.length < 17592186044416 then ((sawtoothref16_Same.f k t332 (y385 ++ t354)).bind fun t391 => (if t391 = true then (if t381 = true then (some true) else (some false)) else (some false))) else (none))) else (none))) else (some false)) else (some false))) else (if t328 = true then (if (t329 == t351 && (t330 == t352 && (t331 == t353))) = true then ((some (([] : List Int) : List Int)).bind fun y392 => (if y392.length + t343.length < 17592186044416 then ((some (y392 ++ t343 : List Int)).bind fun y395 => (if y395.length + t354.length < 17592186044416 then ((sawtoothref16_Same.f k t332 (y395 ++ t354)).bind fun t401 => (if t401 = true then (some false) else (some false))) else (none))) else (none))) else (some false)) else (some false)))) else (if (bt361.1 == a0_0 && (bt361.2.1 == a0_1 && (bt361.2.2.1 == a0_2))) = true then ((sawtoothref16_Same.f k bt361.2.2.2 (([201] : List Int))).bind fun t405 => (if t328 = true then (if (t329 == t351 && (t330 == t352 && (t331 == t353))) = true then ((some (([] : List Int) : List Int)).bind fun y406 => (if y406.length + t343.length < 17592186044416 then ((some (y406 ++ t343 : List Int)).bind fun y409 => (if y409.length + t354.length < 17592186044416 then ((sawtoothref16_Same.f k t332 (y409 ++ t354)).bind fun t415 => (if t415 = true then (if t405 = true then (some true) else (some false)) else (some false))) else (none))) else (none))) else (some false)) else (some false))) else (if t328 = true then (if (t329 == t351 && (t330 == t352 && (t331 == t353))) = true then ((some (([] : List Int) : List Int)).bind fun y416 => (if y416.length + t343.length < 17592186044416 then ((some (y416 ++ t343 : List Int)).bind fun y419 => (if y419.length + t354.length < 17592186044416 then ((sawtoothref16_Same.f k t332 (y419 ++ t354)).bind fun t425 => (if t425 = true then (some false) else (some false))) else (none))) else (none))) else (some false)) else (some false))))) = some r := H
          have A18 := Aside0.mk A180
          clear A180
          obtain ⟨y358, hy358⟩ : ∃ y_ : List (S38), y_ = (([(⟨a3, 1, 1⟩ : S38)] : List (S38))) := ⟨_, rfl⟩
          replace H : ((flight_Do.f k a0_0 a0_1 a0_2 y358).bind fun bt361 => (if a3 ≥ 0 then (if a3 ≤ 2 then (if t328 = true then (if (t329 == t351 && (t330 == t352 && (t331 == t353))) = true then ((some (([] : List Int) : List Int)).bind fun y368 => (if y368.length + t343.length < 17592186044416 then ((some (y368 ++ t343 : List Int)).bind fun y371 => (if y371.length + t354.length < 17592186044416 then ((sawtoothref16_Same.f k t332 (y371 ++ t354)).bind fun t377 => (if t377 = true then (some true) else (some false))) else (none))) else (none))) else (some false)) else (some false)) else (if (bt361.1 == a0_0 && (bt361.2.1 == a0_1 && (bt361.2.2.1 == a0_2))) = true then ((sawtoothref16_Same.f k bt361.2.2.2 (([201] : List Int))).bind fun t381 => (if t328 = true then (if (t329 == t351 && (t330 == t352 && (t331 == t353))) = true then ((some (([] : List Int) : List Int)).bind fun y382 => (if y382.length + t343.length < 17592186044416 then ((some (y382 ++ t343 : List Int)).bind fun y385 => (if y385.length + t354.length < 17592186044416 then ((sawtoothref16_Same.f k t332 (y385 ++ t354)).bind fun t391 => (if t391 = true then (if t381 = true then (some true) else (some false)) else (some false))) else (none))) else (none))) else (some false)) else (some false))) else (if t328 = true then (if (t329 == t351 && (t330 == t352 && (t331 == t353))) = true then ((some (([] : List Int) : List Int)).bind fun y392 => (if y392.length + t343.length < 17592186044416 then ((some (y392 ++ t343 : List Int)).bind fun y395 => (if y395.length + t354.length < 17592186044416 then ((sawtoothref16_Same.f k t332 (y395 ++ t354)).bind fun t401 => (if t401 = true then (some false) else (some false))) else (none))) else (none))) else (some false)) else (some false)))) else (if (bt361.1 == a0_0 && (bt361.2.1 == a0_1 && (bt361.2.2.1 == a0_2))) = true then ((sawtoothref16_Same.f k bt361.2.2.2 (([201] : List Int))).bind fun t405 => (if t328 = true then (if (t329 == t351 && (t330 == t352 && (t331 == t353))) = true then ((some (([] : List Int) : List Int)).bind fun y406 => (if y406.length + t343.length < 17592186044416 then ((some (y406 ++ t343 : List Int)).bind fun y409 => (if y409.length + t354.length < 17592186044416 then ((sawtoothref16_Same.f k t332 (y409 ++ t354)).bind fun t415 => (if t415 = true then (if t405 = true then (some true) else (some false)) else (some false))) else (none))) else (none))) else (some false)) else (some false))) else (if t328 = true then (if (t329 == t351 && (t330 == t352 && (t331 == t353))) = true then ((some (([] : List Int) : List Int)).bind fun y416 => (if y416.length + t343.length < 17592186044416 then ((some (y416 ++ t343 : List Int)).bind fun y419 => (if y419.length + t354.length < 17592186044416 then ((sawtoothref16_Same.f k t332 (y419 ++ t354)).bind fun t425 => (if t425 = true then (some false) else (some false))) else (none))) else (none))) else (some false)) else (some false))))) = some r := by first | (rw [hy358]; with_reducible exact H) | (have H2_ := (Option.bind_some _ _).symm.trans H; rw [hy358]; with_reducible exact H2_) | (have H2_ := (Option.bind_some _ _).symm.trans H; with_reducible exact H2_) | with_reducible exact H | (rw [hy358]; exact H) | exact H
          have Ny358 := Aside0.mk hy358
          clear hy358
          replace H := Option.bind_eq_some_iff.mp H
          obtain ⟨⟨t361, t362, t363, t364⟩, A190, H⟩ := H
          replace H : (if a3 ≥ 0 then (if a3 ≤ 2 then (if t328 = true then (if (t329 == t351 && (t330 == t352 && (t331 == t353))) = true then ((some (([] : List Int) : List Int)).bind fun y368 => (if y368.length + t343.length < 17592186044416 then ((some (y368 ++ t343 : List Int)).bind fun y371 => (if y371.length + t354.length < 17592186044416 then ((sawtoothref16_Same.f k t332 (y371 ++ t354)).bind fun t377 => (if t377 = true then (some true) else (some false))) else (none))) else (none))) else (some false)) else (some false)) else (if (t361 == a0_0 && (t362 == a0_1 && (t363 == a0_2))) = true then ((sawtoothref16_Same.f k t364 (([201] : List Int))).bind fun t381 => (if t328 = true then (if (t329 == t351 && (t330 == t352 && (t331 == t353))) = true then ((some (([] : List Int) : List Int)).bind fun y382 => (if y382.length + t343.length < 17592186044416 then ((some (y382 ++ t343 : List Int)).bind fun y385 => (if y385.length + t354.length < 17592186044416 then ((sawtoothref16_Same.f k t332 (y385 ++ t354)).bind fun t391 => (if t391 = true then (if t381 = true then (some true) else (some false)) else (some false))) else (none))) else (none))) else (some false)) else (some false))) else (if t328 = true then (if (t329 == t351 && (t330 == t352 && (t331 == t353))) = true then ((some (([] : List Int) : List Int)).bind fun y392 => (if y392.length + t343.length < 17592186044416 then ((some (y392 ++ t343 : List Int)).bind fun y395 => (if y395.length + t354.length < 17592186044416 then ((sawtoothref16_Same.f k t332 (y395 ++ t354)).bind fun t401 => (if t401 = true then (some false) else (some false))) else (none))) else (none))) else (some false)) else (some false)))) else (if (t361 == a0_0 && (t362 == a0_1 && (t363 == a0_2))) = true then ((sawtoothref16_Same.f k t364 (([201] : List Int))).bind fun t405 => (if t328 = true then (if (t329 == t351 && (t330 == t352 && (t331 == t353))) = true then ((some (([] : List Int) : List Int)).bind fun y406 => (if y406.length + t343.length < 17592186044416 then ((some (y406 ++ t343 : List Int)).bind fun y409 => (if y409.length + t354.length < 17592186044416 then ((sawtoothref16_Same.f k t332 (y409 ++ t354)).bind fun t415 => (if t415 = true then (if t405 = true then (some true) else (some false)) else (some false))) else (none))) else (none))) else (some false)) else (some false))) else (if t328 = true then (if (t329 == t351 && (t330 == t352 && (t331 == t353))) = true then ((some (([] : List Int) : List Int)).bind fun y416 => (if y416.length + t343.length < 17592186044416 then ((some (y416 ++ t343 : List Int)).bind fun y419 => (if y419.length + t354.length < 17592186044416 then ((sawtoothref16_Same.f k t332 (y419 ++ t354)).bind fun t425 => (if t425 = true then (some false) else (some false))) else (none))) else (none))) else (some false)) else (some false)))) = some r := H
          have A19 := Aside0.mk A190
          clear A190
          by_cases c20 : a3 ≥ 0
          · rw [if_pos c20] at H
            have c20b0 : decide (0 ≤ a3) = true := decide_eq_true c20
            clear c20
            by_cases c21 : a3 ≤ 2
            · rw [if_pos c21] at H
              have c21b0 : decide (a3 ≤ 2) = true := decide_eq_true c21
              clear c21
              by_cases c22 : t328 = true
              · subst c22
                have H1 : (if (t329 == t351 && (t330 == t352 && (t331 == t353))) = true then ((some (([] : List Int) : List Int)).bind fun y368 => (if y368.length + t343.length < 17592186044416 then ((some (y368 ++ t343 : List Int)).bind fun y371 => (if y371.length + t354.length < 17592186044416 then ((sawtoothref16_Same.f k t332 (y371 ++ t354)).bind fun t377 => (if t377 = true then (some true) else (some false))) else (none))) else (none))) else (some false)) = some r := by rw [if_pos rfl] at H; exact H
                clear H
                have H := H1
                clear H1
                by_cases c23 : (t329 == t351 && (t330 == t352 && (t331 == t353))) = true
                · rw [if_pos c23] at H
                  have c23b0 : (t329 == t351 && (t330 == t352 && (t331 == t353))) = true := c23
                  (try (have c23b1 : decide (t329 = t351 && (t330 == t352 && (t331 == t353))) = true := by simpa using c23))
                  (try (have c23b2 : (t329 == t351 && (t330 == t352 && (t331 == t353))) = true := by simpa using c23))
                  clear c23
                  obtain ⟨y368, hy368⟩ : ∃ y_ : List Int, y_ = (([] : List Int)) := ⟨_, rfl⟩
                  replace H : (if y368.length + t343.length < 17592186044416 then ((some (y368 ++ t343 : List Int)).bind fun y371 => (if y371.length + t354.length < 17592186044416 then ((sawtoothref16_Same.f k t332 (y371 ++ t354)).bind fun t377 => (if t377 = true then (some true) else (some false))) else (none))) else (none)) = some r := by first | (rw [hy368]; with_reducible exact H) | (have H2_ := (Option.bind_some _ _).symm.trans H; rw [hy368]; with_reducible exact H2_) | (have H2_ := (Option.bind_some _ _).symm.trans H; with_reducible exact H2_) | with_reducible exact H | (rw [hy368]; exact H) | exact H
                  have Ny368 := Aside0.mk hy368
                  clear hy368
                  by_cases c24 : y368.length + t343.length < 17592186044416
                  · rw [if_pos c24] at H
                    have LMc24 := Aside0.mk c24
                    clear c24
                    obtain ⟨y371, hy371⟩ : ∃ y_ : List Int, y_ = (y368 ++ t343) := ⟨_, rfl⟩
                    replace H : (if y371.length + t354.length < 17592186044416 then ((sawtoothref16_Same.f k t332 (y371 ++ t354)).bind fun t377 => (if t377 = true then (some true) else (some false))) else (none)) = some r := by first | (rw [hy371]; with_reducible exact H) | (have H2_ := (Option.bind_some _ _).symm.trans H; rw [hy371]; with_reducible exact H2_) | (have H2_ := (Option.bind_some _ _).symm.trans H; with_reducible exact H2_) | with_reducible exact H | (rw [hy371]; exact H) | exact H
                    have Ny371 := Aside0.mk hy371
                    clear hy371
                    by_cases c25 : y371.length + t354.length < 17592186044416
                    · rw [if_pos c25] at H
                      have LMc25 := Aside0.mk c25
                      clear c25
                      obtain ⟨y374, hy374⟩ : ∃ y_ : List Int, y_ = (y371 ++ t354) := ⟨_, rfl⟩
                      replace H : ((sawtoothref16_Same.f k t332 y374).bind fun t377 => (if t377 = true then (some true) else (some false))) = some r := by first | (rw [hy374]; with_reducible exact H) | (have H2_ := (Option.bind_some _ _).symm.trans H; rw [hy374]; with_reducible exact H2_) | (have H2_ := (Option.bind_some _ _).symm.trans H; with_reducible exact H2_) | with_reducible exact H | (rw [hy374]; exact H) | exact H
                      have Ny374 := Aside0.mk hy374
                      clear hy374
                      replace H := Option.bind_eq_some_iff.mp H
                      obtain ⟨t377, A260, H⟩ := H
                      replace H : (if t377 = true then (some true) else (some false)) = some r := H
                      have A26 := Aside0.mk A260
                      clear A260
                      by_cases c27 : t377 = true
                      · subst c27
                        have H1 : (some true) = some r := by rw [if_pos rfl] at H; exact H
                        clear H
                        have H := H1
                        clear H1
                        obtain rfl := Option.some.inj H
                        go_enter Try.func7, Try.ntmps7
                        try go_wp2_with (first | ((with_reducible refine gate_dst (N := 4) rfl ?_); (try (refine gate_guard (by rfl) ?_; dsimp only)); refine box_event ?hg (N := 4) ?hd (cs := #[.int .i64 a0_0, .int .i64 a0_1, .int .i64 a0_2]) (t := 23) ?hr ?_; (case hd => rfl); (case hg => rfl); (case hr => first | (go_simp; done) | (go_simp; rfl)); intro gb327 hg w28 hbox hb; have n0_ := Aside0.mk (below_step (by repeat (first | (with_reducible first | exact HB.out | apply below_alloc | apply pw_below_drewN | apply below_drew1) | exact HB.out)) hb); have n1_ := Aside0.mk (hbox); have n2_ := Aside0.mk ((by rw [hg]; exact (below_size (by repeat (first | (with_reducible first | exact HB.out | apply below_alloc | apply pw_below_drewN | apply below_drew1) | exact HB.out))) : w.heap.size ≤ gb327)); have n3_ := Aside0.mk ((by rw [hg]; exact (below_size (by repeat (first | (with_reducible first | exact HB.out | apply below_alloc | apply pw_below_drewN | apply below_drew1) | exact HB.out))) : w.heap.size ≤ gb327)); clear HB; have HB := n0_; have BK327 := n1_; have GW327 := n2_; have GE327 := n3_; clear n0_ n1_ n2_ n3_; clear hb hbox hg) | ((with_reducible refine gate_callee (f := 9) rfl ?_); refine goesL_ (some 20) rfl rfl Try.func9 (by kernel_rfl) rfl #[] rfl (by (try simp only [List.map_toArray, List.map_cons, List.map_nil]); first | done | rfl | (simp only [List.length_drop, List.length_take]; rfl)) ?_; (with_reducible refine (sawtoothlaw16_awake.calls k  true _ A5.out).mono ?_); rintro e w29 ⟨rfl, hb⟩; refine ⟨_, rfl, ?_⟩; have n0_ := Aside0.mk (blk_below (g := gb327) (o := .cells #[.int .i64 a0_0, .int .i64 a0_1, .int .i64 a0_2] 23 (0, 0)) (by (with_reducible repeat (first | refine blk_drewN ?_ _ | refine blk_drew ?_ | refine blk_alloc ?_ _)); exact BK327.out) hb); have n1_ := Aside0.mk (below_step (by repeat (first | (with_reducible first | exact HB.out | apply below_alloc | apply pw_below_drewN | apply below_drew1 | refine below_set ?_ GE327.out) | exact HB.out)) hb); clear BK327; clear HB; have BK327 := n0_; have HB := n1_; clear n0_ n1_; (try clear hb); (try clear hb2); (try clear hk); (try clear hi); have hcz30_0 : w29.cell? ⟨gb327, 0, none⟩ = some (.int .i64 a0_0) := (blk_cell BK327.out 0).trans rfl; have hcz30_1 : w29.cell? ⟨gb327, 1, none⟩ = some (.int .i64 a0_1) := (blk_cell BK327.out 1).trans rfl; have hcz30_2 : w29.cell? ⟨gb327, 2, none⟩ = some (.int .i64 a0_2) := (blk_cell BK327.out 2).trans rfl; have hfz30_0 := blk_frozen BK327.out 0; have hfz30_1 := blk_frozen BK327.out 1; have hfz30_2 := blk_frozen BK327.out 2) | ((with_reducible refine gate_callee (f := 10) rfl ?_); refine goesL_ (some 34) rfl rfl Try.func10 (by kernel_rfl) rfl #[.agg #[.int .i64 a0_0, .int .i64 a0_1, .int .i64 a0_2], .slice A1 l1.length c1] rfl (by (try simp only [List.map_toArray, List.map_cons, List.map_nil]); first | done | rfl | (simp only [List.length_drop, List.length_take]; rfl)) ?_; (with_reducible refine (flight_Do.calls k a0_0 a0_1 a0_2 _ _ l1 t329 t330 t331 t332 _ ?side1 ?side2 A11.out).mono ?_); (case side1 => repeat (first | exact (Kd.C_below HR1.out HB.out) | (with_reducible refine Kd.C_alloc ?_ _) | (with_reducible refine Kd.C_drewN ?_ _) | (with_reducible refine Kd.C_drew ?_))); (case side2 => exact HC1.out); rintro e w31 ⟨v333, rfl, ho0, hb⟩; refine ⟨_, rfl, ?_⟩; have n0_ := Aside0.mk (Kd.R_lower ho0 (below_size (by repeat (first | (with_reducible first | exact HB.out | apply below_alloc | apply pw_below_drewN | apply below_drew1 | refine below_set ?_ GE327.out) | exact HB.out)))); have n1_ := Aside0.mk (blk_below (g := gb327) (o := .cells #[.int .i64 a0_0, .int .i64 a0_1, .int .i64 a0_2] 23 (0, 0)) (by (with_reducible repeat (first | refine blk_drewN ?_ _ | refine blk_drew ?_ | refine blk_alloc ?_ _)); exact BK327.out) hb); have n2_ := Aside0.mk (below_step (by repeat (first | (with_reducible first | exact HB.out | apply below_alloc | apply pw_below_drewN | apply below_drew1 | refine below_set ?_ GE327.out) | exact HB.out)) hb); clear BK327; clear HB; have HO334 := n0_; have BK327 := n1_; have HB := n2_; clear n0_ n1_ n2_; (try clear hb); (try clear hb2); (try clear hk); (try clear hi); (try clear ho0)) | ((with_reducible refine gate_dst (N := 11) rfl ?_); (try (refine gate_guard (by rfl) ?_; dsimp only)); refine box_event ?hg (N := 11) ?hd (cs := #[.int .i64 0, .int .i64 0, .int .i64 0]) (t := 23) ?hr ?_; (case hd => rfl); (case hg => rfl); (case hr => first | (go_simp; done) | (go_simp; rfl)); intro gb335 hg w32 hbox hb; have n0_ := Aside0.mk (Kd.R_below (by (with_reducible repeat (first | apply Kd.R_alloc | apply Kd.R_drewN | apply Kd.R_drew)); exact HO334.out) hb); have n1_ := Aside0.mk (blk_below (g := gb327) (o := .cells #[.int .i64 a0_0, .int .i64 a0_1, .int .i64 a0_2] 23 (0, 0)) (by (with_reducible repeat (first | refine blk_drewN ?_ _ | refine blk_drew ?_ | refine blk_alloc ?_ _)); exact BK327.out) hb); have n2_ := Aside0.mk (below_step (by repeat (first | (with_reducible first | exact HB.out | apply below_alloc | apply pw_below_drewN | apply below_drew1 | refine below_set ?_ GE327.out) | exact HB.out)) hb); have n3_ := Aside0.mk (hbox); have n4_ := Aside0.mk ((by rw [hg]; exact (below_size (by repeat (first | (with_reducible first | exact HB.out | apply below_alloc | apply pw_below_drewN | apply below_drew1 | refine below_set ?_ GE327.out) | exact HB.out))) : w.heap.size ≤ gb335)); have n5_ := Aside0.mk ((by rw [hg]; exact (below_size (by repeat (first | (with_reducible first | exact HB.out | apply below_alloc | apply pw_below_drewN | apply below_drew1 | refine below_set ?_ GE327.out) | exact HB.out))) : w.heap.size ≤ gb335)); have n6_ := Aside0.mk ((by rw [hg]; exact Nat.ne_of_lt (blk_lt (g := gb327) (o := .cells #[.int .i64 a0_0, .int .i64 a0_1, .int .i64 a0_2] 23 (0, 0)) (by (with_reducible repeat (first | refine blk_drewN ?_ _ | refine blk_drew ?_ | refine blk_alloc ?_ _)); exact BK327.out)) : gb327 ≠ gb335)); have n7_ := Aside0.mk ((by rw [hg]; exact Nat.ne_of_gt (blk_lt (g := gb327) (o := .cells #[.int .i64 a0_0, .int .i64 a0_1, .int .i64 a0_2] 23 (0, 0)) (by (with_reducible repeat (first | refine blk_drewN ?_ _ | refine blk_drew ?_ | refine blk_alloc ?_ _)); exact BK327.out)) : gb335 ≠ gb327)); clear HO334; clear BK327; clear HB; have HO334 := n0_; have BK327 := n1_; have HB := n2_; have BK335 := n3_; have GW335 := n4_; have GE335 := n5_; have NB327_335 := n6_; have NB335_327 := n7_; clear n0_ n1_ n2_ n3_ n4_ n5_ n6_ n7_; clear hb hbox hg; have hnb33 := NB335_327.out; have hnc33 := NB327_335.out; have hcz34_0 : w32.cell? ⟨gb335, 0, none⟩ = some (.int .i64 0) := (blk_cell BK335.out 0).trans rfl; have hcz34_1 : w32.cell? ⟨gb335, 1, none⟩ = some (.int .i64 0) := (blk_cell BK335.out 1).trans rfl; have hcz34_2 : w32.cell? ⟨gb335, 2, none⟩ = some (.int .i64 0) := (blk_cell BK335.out 2).trans rfl; have hfz34_0 := blk_frozen BK335.out 0; have hfz34_1 := blk_frozen BK335.out 1; have hfz34_2 := blk_frozen BK335.out 2))
                        have n0_ : Aside0 (Kd.R (Kd.int .i64) 29 (((w32.setCell ⟨gb335, 0, none⟩ (.int .i64 t329)).setCell ⟨gb335, 1, none⟩ (.int .i64 t330)).setCell ⟨gb335, 2, none⟩ (.int .i64 t331)) w.heap.size (fun _ => True) v333 t332) := ⟨by (with_reducible repeat (first | apply Kd.R_alloc | apply Kd.R_drewN | apply Kd.R_drew)); exact Kd.R_mono (Kd.R_far (p := ⟨gb335, 2, none⟩) (Kd.R_far (p := ⟨gb335, 1, none⟩) (Kd.R_far (p := ⟨gb335, 0, none⟩) (Kd.R_types HO334.out BK335.out (by decide)) (fun _ hk => hk.2) (.int .i64 t329)) (fun _ hk => hk.2) (.int .i64 t330)) (fun _ hk => hk.2) (.int .i64 t331)) (fun _ hk => trivial)⟩
                        have n1_ : Aside0 ((((w32.setCell ⟨gb335, 0, none⟩ (.int .i64 t329)).setCell ⟨gb335, 1, none⟩ (.int .i64 t330)).setCell ⟨gb335, 2, none⟩ (.int .i64 t331)).heap[gb327]? = some (.cells #[.int .i64 a0_0, .int .i64 a0_1, .int .i64 a0_2] 23 (0, 0))) := ⟨by (with_reducible repeat (first | refine blk_drewN ?_ _ | refine blk_drew ?_ | refine blk_alloc ?_ _)); refine blk_far ?_ NB327_335.out _; (with_reducible repeat (first | refine blk_drewN ?_ _ | refine blk_drew ?_ | refine blk_alloc ?_ _)); refine blk_far ?_ NB327_335.out _; (with_reducible repeat (first | refine blk_drewN ?_ _ | refine blk_drew ?_ | refine blk_alloc ?_ _)); refine blk_far ?_ NB327_335.out _; (with_reducible repeat (first | refine blk_drewN ?_ _ | refine blk_drew ?_ | refine blk_alloc ?_ _)); exact BK327.out⟩
                        have n2_ : Aside0 ((((w32.setCell ⟨gb335, 0, none⟩ (.int .i64 t329)).setCell ⟨gb335, 1, none⟩ (.int .i64 t330)).setCell ⟨gb335, 2, none⟩ (.int .i64 t331)).heap[gb335]? = some (.cells #[.int .i64 t329, .int .i64 t330, .int .i64 t331] 23 (0, 0))) := ⟨by (with_reducible repeat (first | refine blk_drewN ?_ _ | refine blk_drew ?_ | refine blk_alloc ?_ _)); refine blk_put (cs := #[.int .i64 t329, .int .i64 t330, .int .i64 0]) ?_ 2 _ rfl; (with_reducible repeat (first | refine blk_drewN ?_ _ | refine blk_drew ?_ | refine blk_alloc ?_ _)); refine blk_put (cs := #[.int .i64 t329, .int .i64 0, .int .i64 0]) ?_ 1 _ rfl; (with_reducible repeat (first | refine blk_drewN ?_ _ | refine blk_drew ?_ | refine blk_alloc ?_ _)); refine blk_put (cs := #[.int .i64 0, .int .i64 0, .int .i64 0]) ?_ 0 _ rfl; (with_reducible repeat (first | refine blk_drewN ?_ _ | refine blk_drew ?_ | refine blk_alloc ?_ _)); exact BK335.out⟩
                        have n3_ : Aside0 (Below w.heap.size w (((w32.setCell ⟨gb335, 0, none⟩ (.int .i64 t329)).setCell ⟨gb335, 1, none⟩ (.int .i64 t330)).setCell ⟨gb335, 2, none⟩ (.int .i64 t331))) := ⟨by repeat (first | (with_reducible first | exact HB.out | apply below_alloc | apply pw_below_drewN | apply below_drew1 | refine below_set ?_ GE327.out | refine below_set ?_ GE335.out) | exact HB.out)⟩
                        (try clear HO334)
                        (try clear BK327)
                        (try clear BK335)
                        (try clear HB)
                        generalize (((w32.setCell ⟨gb335, 0, none⟩ (.int .i64 t329)).setCell ⟨gb335, 1, none⟩ (.int .i64 t330)).setCell ⟨gb335, 2, none⟩ (.int .i64 t331)) = w35 at n0_ n1_ n2_ n3_ ⊢
                        have HO334 := n0_
                        have BK327 := n1_
                        have BK335 := n2_
                        have HB := n3_
                        clear n0_ n1_ n2_ n3_
                        have n0_ := Aside0.mk (Kd.R_drew HO334.out)
                        have n1_ := Aside0.mk (blk_drew BK327.out)
                        have n2_ := Aside0.mk (blk_drew BK335.out)
                        have n3_ := Aside0.mk (below_drew1 HB.out)
                        clear HO334
                        clear BK327
                        clear BK335
                        clear HB
                        have HO334 := n0_
                        have BK327 := n1_
                        have BK335 := n2_
                        have HB := n3_
                        clear n0_ n1_ n2_ n3_
                        have q37 : ((ji12) : Int) ≤ ((l1.length : Int) : Int) := of_decide_eq_true (by first | (with_reducible assumption) | assumption)
                        obtain ⟨i037, hi037, _, hsz37, _⟩ := info_parts info38
                        have hroom37 : l1.length ≤ c1 := HC1.out
                        have hC37 : Kd.C k38 _ A1 l1.length l1 := HR1.out
                        have hcut37 := cut_to (P := Try.prog) 24 38 .i64 Try.underlying24 hi037 A1 l1.length c1 (ji12) (of_decide_eq_true (by first | (with_reducible assumption) | assumption)) q37 hroom37
                        have hr37 := Kd.C_take (m := ((ji12) : Int).toNat) hC37 (by omega)
                        have hy37 : y336.length = ((ji12) : Int).toNat := (by rw [Ny336.out, List.length_take]; omega)
                        rw [← Ny336.out] at hr37
                        rw [← hy37] at hcut37
                        have HR339 := Aside0.mk hr37
                        have HC339 := Aside0.mk (show y336.length ≤ c1 from by omega)
                        clear hr37 hC37 hroom37 hi037 hsz37
                        have KY37 := Aside0.mk hy37
                        clear hy37
                        replace q37 := eq_true q37
                        refine start_ (n := 11) (S := fun w' => w'.cell? ⟨gb327, 0, none⟩ = some (.int .i64 a0_0) ∧ w'.cell? ⟨gb327, 1, none⟩ = some (.int .i64 a0_1) ∧ w'.cell? ⟨gb327, 2, none⟩ = some (.int .i64 a0_2)) (ds := []) #[false, false, false, false, false, false, false, false, false, false, false] (by kernel_rfl) rfl rfl ⟨(blk_cell BK327.out 0).trans rfl, (blk_cell BK327.out 1).trans rfl, (blk_cell BK327.out 2).trans rfl⟩ (fun hHeld => ?_); refine with_tabW sawtoothlaw16_FlightAlike.tab6 sawtoothlaw16_FlightAlike.bits6 (fun HT_ HW_ => ?_)
                        generalize w35.drew = w36 at HO334 BK327 BK335 HB HR339 hHeld ⊢
                        refine pure_ (i := 1) (N := some 39) (v := ?_) (a' := ?_) #[false, true, false, false, false, false, false, false, false, false, false] rfl rfl (any_of HT_.out (by kernel_rfl)) (fun _ _ _ h => h) (Or.inl ⟨by rfl, ?_⟩) ?_ ?_
                        rotate_left
                        · intro w'
                          go_simp
                          with_reducible rfl
                        rotate_left
                        · simp only [Act.put, List.setIfInBounds_toArray, List.set_cons_zero, List.set_cons_succ, i64_w, i32_w]
                          rfl
                        refine pure_ (i := 2) (N := some 40) (v := ?_) (a' := ?_) #[false, true, true, false, false, false, false, false, false, false, false] rfl rfl (any_of HT_.out (by kernel_rfl)) (fun _ _ _ h => h) (Or.inl ⟨by rfl, ?_⟩) ?_ ?_
                        rotate_left
                        · intro w'
                          go_simp
                          with_reducible rfl
                        rotate_left
                        · simp only [Act.put, List.setIfInBounds_toArray, List.set_cons_zero, List.set_cons_succ, i64_w, i32_w]
                          rfl
                        refine pure_ (i := 3) (N := some 41) (v := ?_) (a' := ?_) #[false, true, true, true, false, false, false, false, false, false, false] rfl rfl (any_of HT_.out (by kernel_rfl)) (fun _ _ _ h => h) (Or.inl ⟨by rfl, ?_⟩) ?_ ?_
                        rotate_left
                        · intro w'
                          go_simp
                          with_reducible rfl
                        rotate_left
                        · simp only [Act.put, List.setIfInBounds_toArray, List.set_cons_zero, List.set_cons_succ, i64_w, i32_w]
                          rfl
                        refine take_ (i := 0) (N := some 38) (v := ?_) (a' := ?_) #[true, true, true, true, false, false, false, false, false, false, false] rfl rfl (take_ofW HT_.out HW_.out (by kernel_rfl)) (fun _ _ _ h => h) (Or.inl ⟨by rfl, ?_⟩) hHeld ?_ ?_
                        rotate_left
                        · rintro w' ⟨s0, s1, s2⟩
                          go_simp
                          with_reducible rfl
                        rotate_left
                        · simp only [Act.put, List.setIfInBounds_toArray, List.set_cons_zero, List.set_cons_succ, i64_w, i32_w]
                          rfl
                        refine join_ (σ := Value × Nat) 2 #[true, true, true, true, true, true, true, true, true, false, false] (fun s_ => [(42, .tuple #[.agg #[.int .i64 t340, .int .i64 t341, .int .i64 t342], s_.1]), (13, .pointer (some ⟨s_.2, 0, none⟩)), (37, .tuple #[.agg #[.int .i64 t340, .int .i64 t341, .int .i64 t342], s_.1]), (43, .agg #[.int .i64 t340, .int .i64 t341, .int .i64 t342]), (44, s_.1)]) (fun s_ w' => (w'.cell? ⟨gb327, 0, none⟩ = some (.int .i64 a0_0) ∧ w'.cell? ⟨gb327, 1, none⟩ = some (.int .i64 a0_1) ∧ w'.cell? ⟨gb327, 2, none⟩ = some (.int .i64 a0_2)) ∧ (Kd.R (Kd.int .i64) 29 w' w.heap.size (fun k_ => some k_ ≠ (s_.1 : Value).ownBlock) v333 t332) ∧ (Kd.R (Kd.int .i64) 29 w' w.heap.size (fun k_ => some k_ ≠ (v333 : Value).ownBlock) s_.1 t343) ∧ (w'.heap[gb327]? = some (.cells #[.int .i64 a0_0, .int .i64 a0_1, .int .i64 a0_2] 23 (0, 0))) ∧ (w'.heap[gb335]? = some (.cells #[.int .i64 t329, .int .i64 t330, .int .i64 t331] 23 (0, 0))) ∧ (w'.heap[s_.2]? = some (.cells #[.int .i64 0, .int .i64 0, .int .i64 0] 23 (0, 0))) ∧ (w.heap.size ≤ s_.2) ∧ (w.heap.size ≤ s_.2) ∧ (gb327 ≠ s_.2) ∧ (s_.2 ≠ gb327) ∧ (gb335 ≠ s_.2) ∧ (s_.2 ≠ gb335) ∧ (Below w.heap.size w w')) ?_ ?_
                        rotate_left
                        · intro hCont
                          refine two_ (i := 4) (j := 8) (Ni := some 42) (Nj := some 13) #[true, true, true, true, true, false, false, false, false, false, false] #[true, true, true, true, false, false, false, false, true, false, false] rfl rfl rfl rfl (two_of HT_.out (by kernel_rfl)) (by decide) (by decide) (fun K hK => ?_) (fun K hK => ?_)
                          · skip
                            refine goes_ Try.func10 (by kernel_rfl) rfl #[.agg #[.int .i64 a0_0, .int .i64 a0_1, .int .i64 a0_2], .slice A1 y336.length c1] (by rfl) rfl rfl (by (try simp only [List.map_toArray, List.map_cons, List.map_nil]); first | done | rfl | (simp only [List.length_drop, List.length_take]; rfl)) ?_
                            with_reducible refine (flight_Do.calls k a0_0 a0_1 a0_2 _ _ y336 t340 t341 t342 t343 _ ?side1 ?side2 A15.out).mono ?_
                            (case side1 => repeat (first | exact (Kd.C_below HR339.out HB.out) | (with_reducible refine Kd.C_alloc ?_ _) | (with_reducible refine Kd.C_drewN ?_ _) | (with_reducible refine Kd.C_drew ?_)))
                            (case side2 => exact HC339.out)
                            rintro e w38 ⟨v344, rfl, ho0, hb⟩
                            refine ⟨_, rfl, ?_⟩
                            have n0_ := Aside0.mk (Kd.R_elder' (by (with_reducible repeat (first | apply Kd.R_alloc | apply Kd.R_drewN | apply Kd.R_drew)); exact HO334.out) (Kd.R_base ho0) hb)
                            have n1_ := Aside0.mk (Kd.R_lower (Kd.R_new' ho0 (Kd.R_lt (by (with_reducible repeat (first | apply Kd.R_alloc | apply Kd.R_drewN | apply Kd.R_drew)); exact HO334.out))) (below_size (by repeat (first | (with_reducible first | exact HB.out | apply below_alloc | apply pw_below_drewN | apply below_drew1 | refine below_set ?_ GE327.out | refine below_set ?_ GE335.out) | exact HB.out))))
                            have n2_ := Aside0.mk (blk_below (g := gb327) (o := .cells #[.int .i64 a0_0, .int .i64 a0_1, .int .i64 a0_2] 23 (0, 0)) (by (with_reducible repeat (first | refine blk_drewN ?_ _ | refine blk_drew ?_ | refine blk_alloc ?_ _)); exact BK327.out) hb)
                            have n3_ := Aside0.mk (blk_below (g := gb335) (o := .cells #[.int .i64 t329, .int .i64 t330, .int .i64 t331] 23 (0, 0)) (by (with_reducible repeat (first | refine blk_drewN ?_ _ | refine blk_drew ?_ | refine blk_alloc ?_ _)); exact BK335.out) hb)
                            have n4_ := Aside0.mk (below_step (by repeat (first | (with_reducible first | exact HB.out | apply below_alloc | apply pw_below_drewN | apply below_drew1 | refine below_set ?_ GE327.out | refine below_set ?_ GE335.out) | exact HB.out)) hb)
                            clear HO334
                            clear BK327
                            clear BK335
                            clear HB
                            have HO334 := n0_
                            have HO345 := n1_
                            have BK327 := n2_
                            have BK335 := n3_
                            have HB := n4_
                            clear n0_ n1_ n2_ n3_ n4_
                            (try clear hb)
                            (try clear hb2)
                            (try clear hk)
                            (try clear hi)
                            (try clear ho0)
                            refine hK.out _ _ ⟨(blk_cell BK327.out 0).trans rfl, (blk_cell BK327.out 1).trans rfl, (blk_cell BK327.out 2).trans rfl⟩ (fun hHeld => ?_)
                            clear hK K
                            refine norm_ (a' := ?_) ?_ ?_
                            rotate_left
                            · show Act.put _ (some 42) _ = _
                              simp only [Act.put, List.setIfInBounds_toArray, List.set_cons_zero, List.set_cons_succ, i64_w, i32_w]
                              rfl
                            refine pure_ (i := 5) (N := some 37) (v := ?_) (a' := ?_) #[true, true, true, true, true, true, false, false, false, false, false] rfl rfl (any_of HT_.out (by kernel_rfl)) (fun _ _ _ h => h) (Or.inl ⟨by rfl, ?_⟩) ?_ ?_
                            rotate_left
                            · intro w'
                              go_simp
                              with_reducible rfl
                            rotate_left
                            · simp only [Act.put, List.setIfInBounds_toArray, List.set_cons_zero, List.set_cons_succ, i64_w, i32_w]
                              rfl
                            refine pure_ (i := 6) (N := some 43) (v := ?_) (a' := ?_) #[true, true, true, true, true, true, true, false, false, false, false] rfl rfl (any_of HT_.out (by kernel_rfl)) (fun _ _ _ h => h) (Or.inl ⟨by rfl, ?_⟩) ?_ ?_
                            rotate_left
                            · intro w'
                              go_simp
                              with_reducible rfl
                            rotate_left
                            · simp only [Act.put, List.setIfInBounds_toArray, List.set_cons_zero, List.set_cons_succ, i64_w, i32_w]
                              rfl
                            refine pure_ (i := 7) (N := some 44) (v := ?_) (a' := ?_) #[true, true, true, true, true, true, true, true, false, false, false] rfl rfl (any_of HT_.out (by kernel_rfl)) (fun _ _ _ h => h) (Or.inl ⟨by rfl, ?_⟩) ?_ ?_
                            rotate_left
                            · intro w'
                              go_simp
                              with_reducible rfl
                            rotate_left
                            · simp only [Act.put, List.setIfInBounds_toArray, List.set_cons_zero, List.set_cons_succ, i64_w, i32_w]
                              rfl
                            refine one_ (i := 8) (N := some 13) #[true, true, true, true, true, true, true, true, true, false, false] rfl rfl (one_of HT_.out (by kernel_rfl)) (by decide) (fun K hK => ?_)
                            refine box_step ?hg (N := 13) ?hd (cs := #[.int .i64 0, .int .i64 0, .int .i64 0]) (t := 23) ?hr ?_; (case hd => rfl); (case hg => rfl); (case hr => first | (go_simp; done) | (go_simp; rfl))
                            intro gb346 hg w39 hbox hb
                            have n0_ := Aside0.mk (Kd.R_below (by (with_reducible repeat (first | apply Kd.R_alloc | apply Kd.R_drewN | apply Kd.R_drew)); exact HO334.out) hb)
                            have n1_ := Aside0.mk (Kd.R_below (by (with_reducible repeat (first | apply Kd.R_alloc | apply Kd.R_drewN | apply Kd.R_drew)); exact HO345.out) hb)
                            have n2_ := Aside0.mk (blk_below (g := gb327) (o := .cells #[.int .i64 a0_0, .int .i64 a0_1, .int .i64 a0_2] 23 (0, 0)) (by (with_reducible repeat (first | refine blk_drewN ?_ _ | refine blk_drew ?_ | refine blk_alloc ?_ _)); exact BK327.out) hb)
                            have n3_ := Aside0.mk (blk_below (g := gb335) (o := .cells #[.int .i64 t329, .int .i64 t330, .int .i64 t331] 23 (0, 0)) (by (with_reducible repeat (first | refine blk_drewN ?_ _ | refine blk_drew ?_ | refine blk_alloc ?_ _)); exact BK335.out) hb)
                            have n4_ := Aside0.mk (below_step (by repeat (first | (with_reducible first | exact HB.out | apply below_alloc | apply pw_below_drewN | apply below_drew1 | refine below_set ?_ GE327.out | refine below_set ?_ GE335.out) | exact HB.out)) hb)
                            have n5_ := Aside0.mk (hbox)
                            have n6_ := Aside0.mk ((by rw [hg]; exact (below_size (by repeat (first | (with_reducible first | exact HB.out | apply below_alloc | apply pw_below_drewN | apply below_drew1 | refine below_set ?_ GE327.out | refine below_set ?_ GE335.out) | exact HB.out))) : w.heap.size ≤ gb346))
                            have n7_ := Aside0.mk ((by rw [hg]; exact (below_size (by repeat (first | (with_reducible first | exact HB.out | apply below_alloc | apply pw_below_drewN | apply below_drew1 | refine below_set ?_ GE327.out | refine below_set ?_ GE335.out) | exact HB.out))) : w.heap.size ≤ gb346))
                            have n8_ := Aside0.mk ((by rw [hg]; exact Nat.ne_of_lt (blk_lt (g := gb327) (o := .cells #[.int .i64 a0_0, .int .i64 a0_1, .int .i64 a0_2] 23 (0, 0)) (by (with_reducible repeat (first | refine blk_drewN ?_ _ | refine blk_drew ?_ | refine blk_alloc ?_ _)); exact BK327.out)) : gb327 ≠ gb346))
                            have n9_ := Aside0.mk ((by rw [hg]; exact Nat.ne_of_gt (blk_lt (g := gb327) (o := .cells #[.int .i64 a0_0, .int .i64 a0_1, .int .i64 a0_2] 23 (0, 0)) (by (with_reducible repeat (first | refine blk_drewN ?_ _ | refine blk_drew ?_ | refine blk_alloc ?_ _)); exact BK327.out)) : gb346 ≠ gb327))
                            have n10_ := Aside0.mk ((by rw [hg]; exact Nat.ne_of_lt (blk_lt (g := gb335) (o := .cells #[.int .i64 t329, .int .i64 t330, .int .i64 t331] 23 (0, 0)) (by (with_reducible repeat (first | refine blk_drewN ?_ _ | refine blk_drew ?_ | refine blk_alloc ?_ _)); exact BK335.out)) : gb335 ≠ gb346))
                            have n11_ := Aside0.mk ((by rw [hg]; exact Nat.ne_of_gt (blk_lt (g := gb335) (o := .cells #[.int .i64 t329, .int .i64 t330, .int .i64 t331] 23 (0, 0)) (by (with_reducible repeat (first | refine blk_drewN ?_ _ | refine blk_drew ?_ | refine blk_alloc ?_ _)); exact BK335.out)) : gb346 ≠ gb335))
                            clear HO334
                            clear HO345
                            clear BK327
                            clear BK335
                            clear HB
                            have HO334 := n0_
                            have HO345 := n1_
                            have BK327 := n2_
                            have BK335 := n3_
                            have HB := n4_
                            have BK346 := n5_
                            have GW346 := n6_
                            have GE346 := n7_
                            have NB327_346 := n8_
                            have NB346_327 := n9_
                            have NB335_346 := n10_
                            have NB346_335 := n11_
                            clear n0_ n1_ n2_ n3_ n4_ n5_ n6_ n7_ n8_ n9_ n10_ n11_
                            clear hb hbox hg
                            refine hK.out _ _ ⟨(blk_cell BK327.out 0).trans rfl, (blk_cell BK327.out 1).trans rfl, (blk_cell BK327.out 2).trans rfl⟩ (fun hHeld => ?_)
                            clear hK K
                            refine norm_ (a' := ?_) ?_ ?_
                            rotate_left
                            · show Act.put _ (some 13) _ = _
                              simp only [Act.put, List.setIfInBounds_toArray, List.set_cons_zero, List.set_cons_succ, i64_w, i32_w]
                              rfl
                            exact norm_ (by simp only [putAll, Act.put, List.setIfInBounds_toArray, List.set_cons_zero, List.set_cons_succ]) (hCont (v344, gb346) _ ⟨hHeld, (by (with_reducible repeat (first | apply Kd.R_alloc | apply Kd.R_drewN | apply Kd.R_drew)); exact Kd.R_mono HO334.out (fun _ hk => hk.2)), (by (with_reducible repeat (first | apply Kd.R_alloc | apply Kd.R_drewN | apply Kd.R_drew)); exact Kd.R_mono HO345.out (fun _ hk => hk.2)), (by (with_reducible repeat (first | refine blk_drewN ?_ _ | refine blk_drew ?_ | refine blk_alloc ?_ _)); exact BK327.out), (by (with_reducible repeat (first | refine blk_drewN ?_ _ | refine blk_drew ?_ | refine blk_alloc ?_ _)); exact BK335.out), (by (with_reducible repeat (first | refine blk_drewN ?_ _ | refine blk_drew ?_ | refine blk_alloc ?_ _)); exact BK346.out), GW346.out, GE346.out, NB327_346.out, NB346_327.out, NB335_346.out, NB346_335.out, (by repeat (first | (with_reducible first | exact HB.out | apply below_alloc | apply pw_below_drewN | apply below_drew1 | refine below_set ?_ GE327.out | refine below_set ?_ GE335.out | refine below_set ?_ GE346.out) | exact HB.out))⟩)
                          · skip
                            refine box_step ?hg (N := 13) ?hd (cs := #[.int .i64 0, .int .i64 0, .int .i64 0]) (t := 23) ?hr ?_; (case hd => rfl); (case hg => rfl); (case hr => first | (go_simp; done) | (go_simp; rfl))
                            intro gb346 hg w38 hbox hb
                            have n0_ := Aside0.mk (Kd.R_below (by (with_reducible repeat (first | apply Kd.R_alloc | apply Kd.R_drewN | apply Kd.R_drew)); exact HO334.out) hb)
                            have n1_ := Aside0.mk (blk_below (g := gb327) (o := .cells #[.int .i64 a0_0, .int .i64 a0_1, .int .i64 a0_2] 23 (0, 0)) (by (with_reducible repeat (first | refine blk_drewN ?_ _ | refine blk_drew ?_ | refine blk_alloc ?_ _)); exact BK327.out) hb)
                            have n2_ := Aside0.mk (blk_below (g := gb335) (o := .cells #[.int .i64 t329, .int .i64 t330, .int .i64 t331] 23 (0, 0)) (by (with_reducible repeat (first | refine blk_drewN ?_ _ | refine blk_drew ?_ | refine blk_alloc ?_ _)); exact BK335.out) hb)
                            have n3_ := Aside0.mk (below_step (by repeat (first | (with_reducible first | exact HB.out | apply below_alloc | apply pw_below_drewN | apply below_drew1 | refine below_set ?_ GE327.out | refine below_set ?_ GE335.out) | exact HB.out)) hb)
                            have n4_ := Aside0.mk (hbox)
                            have n5_ := Aside0.mk ((by rw [hg]; exact (below_size (by repeat (first | (with_reducible first | exact HB.out | apply below_alloc | apply pw_below_drewN | apply below_drew1 | refine below_set ?_ GE327.out | refine below_set ?_ GE335.out) | exact HB.out))) : w.heap.size ≤ gb346))
                            have n6_ := Aside0.mk ((by rw [hg]; exact (below_size (by repeat (first | (with_reducible first | exact HB.out | apply below_alloc | apply pw_below_drewN | apply below_drew1 | refine below_set ?_ GE327.out | refine below_set ?_ GE335.out) | exact HB.out))) : w.heap.size ≤ gb346))
                            have n7_ := Aside0.mk ((by rw [hg]; exact Nat.ne_of_lt (blk_lt (g := gb327) (o := .cells #[.int .i64 a0_0, .int .i64 a0_1, .int .i64 a0_2] 23 (0, 0)) (by (with_reducible repeat (first | refine blk_drewN ?_ _ | refine blk_drew ?_ | refine blk_alloc ?_ _)); exact BK327.out)) : gb327 ≠ gb346))
                            have n8_ := Aside0.mk ((by rw [hg]; exact Nat.ne_of_gt (blk_lt (g := gb327) (o := .cells #[.int .i64 a0_0, .int .i64 a0_1, .int .i64 a0_2] 23 (0, 0)) (by (with_reducible repeat (first | refine blk_drewN ?_ _ | refine blk_drew ?_ | refine blk_alloc ?_ _)); exact BK327.out)) : gb346 ≠ gb327))
                            have n9_ := Aside0.mk ((by rw [hg]; exact Nat.ne_of_lt (blk_lt (g := gb335) (o := .cells #[.int .i64 t329, .int .i64 t330, .int .i64 t331] 23 (0, 0)) (by (with_reducible repeat (first | refine blk_drewN ?_ _ | refine blk_drew ?_ | refine blk_alloc ?_ _)); exact BK335.out)) : gb335 ≠ gb346))
                            have n10_ := Aside0.mk ((by rw [hg]; exact Nat.ne_of_gt (blk_lt (g := gb335) (o := .cells #[.int .i64 t329, .int .i64 t330, .int .i64 t331] 23 (0, 0)) (by (with_reducible repeat (first | refine blk_drewN ?_ _ | refine blk_drew ?_ | refine blk_alloc ?_ _)); exact BK335.out)) : gb346 ≠ gb335))
                            clear HO334
                            clear BK327
                            clear BK335
                            clear HB
                            have HO334 := n0_
                            have BK327 := n1_
                            have BK335 := n2_
                            have HB := n3_
                            have BK346 := n4_
                            have GW346 := n5_
                            have GE346 := n6_
                            have NB327_346 := n7_
                            have NB346_327 := n8_
                            have NB335_346 := n9_
                            have NB346_335 := n10_
                            clear n0_ n1_ n2_ n3_ n4_ n5_ n6_ n7_ n8_ n9_ n10_
                            clear hb hbox hg
                            refine hK.out _ _ ⟨(blk_cell BK327.out 0).trans rfl, (blk_cell BK327.out 1).trans rfl, (blk_cell BK327.out 2).trans rfl⟩ (fun hHeld => ?_)
                            clear hK K
                            refine norm_ (a' := ?_) ?_ ?_
                            rotate_left
                            · show Act.put _ (some 13) _ = _
                              simp only [Act.put, List.setIfInBounds_toArray, List.set_cons_zero, List.set_cons_succ, i64_w, i32_w]
                              rfl
                            refine one_ (i := 4) (N := some 42) #[true, true, true, true, true, false, false, false, true, false, false] rfl rfl (one_of HT_.out (by kernel_rfl)) (by decide) (fun K hK => ?_)
                            refine goes_ Try.func10 (by kernel_rfl) rfl #[.agg #[.int .i64 a0_0, .int .i64 a0_1, .int .i64 a0_2], .slice A1 y336.length c1] (by rfl) rfl rfl (by (try simp only [List.map_toArray, List.map_cons, List.map_nil]); first | done | rfl | (simp only [List.length_drop, List.length_take]; rfl)) ?_
                            with_reducible refine (flight_Do.calls k a0_0 a0_1 a0_2 _ _ y336 t340 t341 t342 t343 _ ?side1 ?side2 A15.out).mono ?_
                            (case side1 => repeat (first | exact (Kd.C_below HR339.out HB.out) | (with_reducible refine Kd.C_alloc ?_ _) | (with_reducible refine Kd.C_drewN ?_ _) | (with_reducible refine Kd.C_drew ?_)))
                            (case side2 => exact HC339.out)
                            rintro e w39 ⟨v344, rfl, ho0, hb⟩
                            refine ⟨_, rfl, ?_⟩
                            have n0_ := Aside0.mk (Kd.R_elder' (by (with_reducible repeat (first | apply Kd.R_alloc | apply Kd.R_drewN | apply Kd.R_drew)); exact HO334.out) (Kd.R_base ho0) hb)
                            have n1_ := Aside0.mk (Kd.R_lower (Kd.R_new' ho0 (Kd.R_lt (by (with_reducible repeat (first | apply Kd.R_alloc | apply Kd.R_drewN | apply Kd.R_drew)); exact HO334.out))) (below_size (by repeat (first | (with_reducible first | exact HB.out | apply below_alloc | apply pw_below_drewN | apply below_drew1 | refine below_set ?_ GE327.out | refine below_set ?_ GE335.out | refine below_set ?_ GE346.out) | exact HB.out))))
                            have n2_ := Aside0.mk (blk_below (g := gb327) (o := .cells #[.int .i64 a0_0, .int .i64 a0_1, .int .i64 a0_2] 23 (0, 0)) (by (with_reducible repeat (first | refine blk_drewN ?_ _ | refine blk_drew ?_ | refine blk_alloc ?_ _)); exact BK327.out) hb)
                            have n3_ := Aside0.mk (blk_below (g := gb335) (o := .cells #[.int .i64 t329, .int .i64 t330, .int .i64 t331] 23 (0, 0)) (by (with_reducible repeat (first | refine blk_drewN ?_ _ | refine blk_drew ?_ | refine blk_alloc ?_ _)); exact BK335.out) hb)
                            have n4_ := Aside0.mk (blk_below (g := gb346) (o := .cells #[.int .i64 0, .int .i64 0, .int .i64 0] 23 (0, 0)) (by (with_reducible repeat (first | refine blk_drewN ?_ _ | refine blk_drew ?_ | refine blk_alloc ?_ _)); exact BK346.out) hb)
                            have n5_ := Aside0.mk (below_step (by repeat (first | (with_reducible first | exact HB.out | apply below_alloc | apply pw_below_drewN | apply below_drew1 | refine below_set ?_ GE327.out | refine below_set ?_ GE335.out | refine below_set ?_ GE346.out) | exact HB.out)) hb)
                            clear HO334
                            clear BK327
                            clear BK335
                            clear BK346
                            clear HB
                            have HO334 := n0_
                            have HO345 := n1_
                            have BK327 := n2_
                            have BK335 := n3_
                            have BK346 := n4_
                            have HB := n5_
                            clear n0_ n1_ n2_ n3_ n4_ n5_
                            (try clear hb)
                            (try clear hb2)
                            (try clear hk)
                            (try clear hi)
                            (try clear ho0)
                            refine hK.out _ _ ⟨(blk_cell BK327.out 0).trans rfl, (blk_cell BK327.out 1).trans rfl, (blk_cell BK327.out 2).trans rfl⟩ (fun hHeld => ?_)
                            clear hK K
                            refine norm_ (a' := ?_) ?_ ?_
                            rotate_left
                            · show Act.put _ (some 42) _ = _
                              simp only [Act.put, List.setIfInBounds_toArray, List.set_cons_zero, List.set_cons_succ, i64_w, i32_w]
                              rfl
                            refine pure_ (i := 5) (N := some 37) (v := ?_) (a' := ?_) #[true, true, true, true, true, true, false, false, true, false, false] rfl rfl (any_of HT_.out (by kernel_rfl)) (fun _ _ _ h => h) (Or.inl ⟨by rfl, ?_⟩) ?_ ?_
                            rotate_left
                            · intro w'
                              go_simp
                              with_reducible rfl
                            rotate_left
                            · simp only [Act.put, List.setIfInBounds_toArray, List.set_cons_zero, List.set_cons_succ, i64_w, i32_w]
                              rfl
                            refine pure_ (i := 6) (N := some 43) (v := ?_) (a' := ?_) #[true, true, true, true, true, true, true, false, true, false, false] rfl rfl (any_of HT_.out (by kernel_rfl)) (fun _ _ _ h => h) (Or.inl ⟨by rfl, ?_⟩) ?_ ?_
                            rotate_left
                            · intro w'
                              go_simp
                              with_reducible rfl
                            rotate_left
                            · simp only [Act.put, List.setIfInBounds_toArray, List.set_cons_zero, List.set_cons_succ, i64_w, i32_w]
                              rfl
                            refine pure_ (i := 7) (N := some 44) (v := ?_) (a' := ?_) #[true, true, true, true, true, true, true, true, true, false, false] rfl rfl (any_of HT_.out (by kernel_rfl)) (fun _ _ _ h => h) (Or.inl ⟨by rfl, ?_⟩) ?_ ?_
                            rotate_left
                            · intro w'
                              go_simp
                              with_reducible rfl
                            rotate_left
                            · simp only [Act.put, List.setIfInBounds_toArray, List.set_cons_zero, List.set_cons_succ, i64_w, i32_w]
                              rfl
                            exact norm_ (by simp only [putAll, Act.put, List.setIfInBounds_toArray, List.set_cons_zero, List.set_cons_succ]) (hCont (v344, gb346) _ ⟨hHeld, (by (with_reducible repeat (first | apply Kd.R_alloc | apply Kd.R_drewN | apply Kd.R_drew)); exact Kd.R_mono HO334.out (fun _ hk => hk.2)), (by (with_reducible repeat (first | apply Kd.R_alloc | apply Kd.R_drewN | apply Kd.R_drew)); exact Kd.R_mono HO345.out (fun _ hk => hk.2)), (by (with_reducible repeat (first | refine blk_drewN ?_ _ | refine blk_drew ?_ | refine blk_alloc ?_ _)); exact BK327.out), (by (with_reducible repeat (first | refine blk_drewN ?_ _ | refine blk_drew ?_ | refine blk_alloc ?_ _)); exact BK335.out), (by (with_reducible repeat (first | refine blk_drewN ?_ _ | refine blk_drew ?_ | refine blk_alloc ?_ _)); exact BK346.out), GW346.out, GE346.out, NB327_346.out, NB346_327.out, NB335_346.out, NB346_335.out, (by repeat (first | (with_reducible first | exact HB.out | apply below_alloc | apply pw_below_drewN | apply below_drew1 | refine below_set ?_ GE327.out | refine below_set ?_ GE335.out | refine below_set ?_ GE346.out) | exact HB.out))⟩)
                        rintro ⟨v344, gb346⟩ w40 ⟨hS_, h0_, h1_, h2_, h3_, h4_, h5_, h6_, h7_, h8_, h9_, h10_, h11_⟩
                        have n0_ : Aside0 (Kd.R (Kd.int .i64) 29 w40 w.heap.size (fun k_ => some k_ ≠ (v344 : Value).ownBlock) v333 t332) := ⟨h0_⟩
                        have n1_ : Aside0 (Kd.R (Kd.int .i64) 29 w40 w.heap.size (fun k_ => some k_ ≠ (v333 : Value).ownBlock) v344 t343) := ⟨h1_⟩
                        have n2_ : Aside0 (w40.heap[gb327]? = some (.cells #[.int .i64 a0_0, .int .i64 a0_1, .int .i64 a0_2] 23 (0, 0))) := ⟨h2_⟩
                        have n3_ : Aside0 (w40.heap[gb335]? = some (.cells #[.int .i64 t329, .int .i64 t330, .int .i64 t331] 23 (0, 0))) := ⟨h3_⟩
                        have n4_ : Aside0 (w40.heap[gb346]? = some (.cells #[.int .i64 0, .int .i64 0, .int .i64 0] 23 (0, 0))) := ⟨h4_⟩
                        have n5_ : Aside0 (w.heap.size ≤ gb346) := ⟨h5_⟩
                        have n6_ : Aside0 (w.heap.size ≤ gb346) := ⟨h6_⟩
                        have n7_ : Aside0 (gb327 ≠ gb346) := ⟨h7_⟩
                        have n8_ : Aside0 (gb346 ≠ gb327) := ⟨h8_⟩
                        have n9_ : Aside0 (gb335 ≠ gb346) := ⟨h9_⟩
                        have n10_ : Aside0 (gb346 ≠ gb335) := ⟨h10_⟩
                        have n11_ : Aside0 (Below w.heap.size w w40) := ⟨h11_⟩
                        clear HO334
                        clear BK327
                        clear BK335
                        clear HB
                        clear h0_ h1_ h2_ h3_ h4_ h5_ h6_ h7_ h8_ h9_ h10_ h11_
                        have HO334 := n0_
                        have HO345 := n1_
                        have BK327 := n2_
                        have BK335 := n3_
                        have BK346 := n4_
                        have GW346 := n5_
                        have GE346 := n6_
                        have NB327_346 := n7_
                        have NB346_327 := n8_
                        have NB335_346 := n9_
                        have NB346_335 := n10_
                        have HB := n11_
                        clear n0_ n1_ n2_ n3_ n4_ n5_ n6_ n7_ n8_ n9_ n10_ n11_
                        have hHeld : w40.cell? ⟨gb327, 0, none⟩ = some (.int .i64 a0_0) ∧ w40.cell? ⟨gb327, 1, none⟩ = some (.int .i64 a0_1) ∧ w40.cell? ⟨gb327, 2, none⟩ = some (.int .i64 a0_2) := hS_
                        refine norm_ (a' := ?_) ?_ ?_
                        rotate_left
                        · simp only [putAll, Act.put, List.setIfInBounds_toArray, List.set_cons_zero, List.set_cons_succ]
                          rfl
                        refine one_ (i := 9) (N := none) #[true, true, true, true, true, true, true, true, true, true, false] rfl rfl (one_of HT_.out (by kernel_rfl)) (by decide) (fun K hK => ?_)
                        have hs41 : w40.cell? ⟨gb346, 0, none⟩ = some (.int .i64 0) := (blk_cell BK346.out 0).trans rfl
                        have hfs41 := blk_frozen BK346.out 0
                        have hns41_0 := NB327_346.out
                        have hns41_1 := NB335_346.out
                        have hms41_0 := NB346_327.out
                        have hms41_1 := NB346_335.out
                        have hs42 : w40.cell? ⟨gb346, 1, none⟩ = some (.int .i64 0) := (blk_cell BK346.out 1).trans rfl
                        have hfs42 := blk_frozen BK346.out 1
                        have hns42_0 := NB327_346.out
                        have hns42_1 := NB335_346.out
                        have hms42_0 := NB346_327.out
                        have hms42_1 := NB346_335.out
                        have hs43 : w40.cell? ⟨gb346, 2, none⟩ = some (.int .i64 0) := (blk_cell BK346.out 2).trans rfl
                        have hfs43 := blk_frozen BK346.out 2
                        have hns43_0 := NB327_346.out
                        have hns43_1 := NB335_346.out
                        have hms43_0 := NB346_327.out
                        have hms43_1 := NB346_335.out
                        refine skip_ (w1 := ?_) (by rfl) rfl ?_ ?_
                        rotate_left
                        · go_simp
                          rfl
                        refine hK.out _ _ ⟨((cell_far (p := ⟨gb346, _, none⟩) NB327_346.out _).trans (((cell_far (p := ⟨gb346, _, none⟩) NB327_346.out _).trans (((cell_far (p := ⟨gb346, _, none⟩) NB327_346.out _).trans (hHeld.1)))))), ((cell_far (p := ⟨gb346, _, none⟩) NB327_346.out _).trans (((cell_far (p := ⟨gb346, _, none⟩) NB327_346.out _).trans (((cell_far (p := ⟨gb346, _, none⟩) NB327_346.out _).trans (hHeld.2.1)))))), ((cell_far (p := ⟨gb346, _, none⟩) NB327_346.out _).trans (((cell_far (p := ⟨gb346, _, none⟩) NB327_346.out _).trans (((cell_far (p := ⟨gb346, _, none⟩) NB327_346.out _).trans (hHeld.2.2))))))⟩ (fun hHeld => ?_)
                        clear hK K
                        refine pure_ (i := 10) (N := some 14) (v := ?_) (a' := ?_) #[true, true, true, true, true, true, true, true, true, true, true] rfl rfl (any_of HT_.out (by kernel_rfl)) (fun _ _ _ h => h) (Or.inl ⟨by rfl, ?_⟩) ?_ ?_
                        rotate_left
                        · intro w'
                          go_simp
                          with_reducible rfl
                        rotate_left
                        · simp only [Act.put, List.setIfInBounds_toArray, List.set_cons_zero, List.set_cons_succ, i64_w, i32_w]
                          rfl
                        refine done_ (done_of HT_.out (by kernel_rfl)) ?_
                        try go_wp2
                        have n0_ : Aside0 (Kd.R (Kd.int .i64) 29 (((w40.setCell ⟨gb346, 0, none⟩ (.int .i64 t340)).setCell ⟨gb346, 1, none⟩ (.int .i64 t341)).setCell ⟨gb346, 2, none⟩ (.int .i64 t342)) w.heap.size (fun k_ => some k_ ≠ (v344 : Value).ownBlock) v333 t332) := ⟨by (with_reducible repeat (first | apply Kd.R_alloc | apply Kd.R_drewN | apply Kd.R_drew)); exact Kd.R_mono (Kd.R_far (p := ⟨gb346, 2, none⟩) (Kd.R_far (p := ⟨gb346, 1, none⟩) (Kd.R_far (p := ⟨gb346, 0, none⟩) (Kd.R_types HO334.out BK346.out (by decide)) (fun _ hk => hk.2) (.int .i64 t340)) (fun _ hk => hk.2) (.int .i64 t341)) (fun _ hk => hk.2) (.int .i64 t342)) (fun _ hk => hk.1)⟩
                        have n1_ : Aside0 (Kd.R (Kd.int .i64) 29 (((w40.setCell ⟨gb346, 0, none⟩ (.int .i64 t340)).setCell ⟨gb346, 1, none⟩ (.int .i64 t341)).setCell ⟨gb346, 2, none⟩ (.int .i64 t342)) w.heap.size (fun k_ => some k_ ≠ (v333 : Value).ownBlock) v344 t343) := ⟨by (with_reducible repeat (first | apply Kd.R_alloc | apply Kd.R_drewN | apply Kd.R_drew)); exact Kd.R_mono (Kd.R_far (p := ⟨gb346, 2, none⟩) (Kd.R_far (p := ⟨gb346, 1, none⟩) (Kd.R_far (p := ⟨gb346, 0, none⟩) (Kd.R_types HO345.out BK346.out (by decide)) (fun _ hk => hk.2) (.int .i64 t340)) (fun _ hk => hk.2) (.int .i64 t341)) (fun _ hk => hk.2) (.int .i64 t342)) (fun _ hk => hk.1)⟩
                        have n2_ : Aside0 ((((w40.setCell ⟨gb346, 0, none⟩ (.int .i64 t340)).setCell ⟨gb346, 1, none⟩ (.int .i64 t341)).setCell ⟨gb346, 2, none⟩ (.int .i64 t342)).heap[gb327]? = some (.cells #[.int .i64 a0_0, .int .i64 a0_1, .int .i64 a0_2] 23 (0, 0))) := ⟨by (with_reducible repeat (first | refine blk_drewN ?_ _ | refine blk_drew ?_ | refine blk_alloc ?_ _)); refine blk_far ?_ NB327_346.out _; (with_reducible repeat (first | refine blk_drewN ?_ _ | refine blk_drew ?_ | refine blk_alloc ?_ _)); refine blk_far ?_ NB327_346.out _; (with_reducible repeat (first | refine blk_drewN ?_ _ | refine blk_drew ?_ | refine blk_alloc ?_ _)); refine blk_far ?_ NB327_346.out _; (with_reducible repeat (first | refine blk_drewN ?_ _ | refine blk_drew ?_ | refine blk_alloc ?_ _)); exact BK327.out⟩
                        have n3_ : Aside0 ((((w40.setCell ⟨gb346, 0, none⟩ (.int .i64 t340)).setCell ⟨gb346, 1, none⟩ (.int .i64 t341)).setCell ⟨gb346, 2, none⟩ (.int .i64 t342)).heap[gb335]? = some (.cells #[.int .i64 t329, .int .i64 t330, .int .i64 t331] 23 (0, 0))) := ⟨by (with_reducible repeat (first | refine blk_drewN ?_ _ | refine blk_drew ?_ | refine blk_alloc ?_ _)); refine blk_far ?_ NB335_346.out _; (with_reducible repeat (first | refine blk_drewN ?_ _ | refine blk_drew ?_ | refine blk_alloc ?_ _)); refine blk_far ?_ NB335_346.out _; (with_reducible repeat (first | refine blk_drewN ?_ _ | refine blk_drew ?_ | refine blk_alloc ?_ _)); refine blk_far ?_ NB335_346.out _; (with_reducible repeat (first | refine blk_drewN ?_ _ | refine blk_drew ?_ | refine blk_alloc ?_ _)); exact BK335.out⟩
                        have n4_ : Aside0 ((((w40.setCell ⟨gb346, 0, none⟩ (.int .i64 t340)).setCell ⟨gb346, 1, none⟩ (.int .i64 t341)).setCell ⟨gb346, 2, none⟩ (.int .i64 t342)).heap[gb346]? = some (.cells #[.int .i64 t340, .int .i64 t341, .int .i64 t342] 23 (0, 0))) := ⟨by (with_reducible repeat (first | refine blk_drewN ?_ _ | refine blk_drew ?_ | refine blk_alloc ?_ _)); refine blk_put (cs := #[.int .i64 t340, .int .i64 t341, .int .i64 0]) ?_ 2 _ rfl; (with_reducible repeat (first | refine blk_drewN ?_ _ | refine blk_drew ?_ | refine blk_alloc ?_ _)); refine blk_put (cs := #[.int .i64 t340, .int .i64 0, .int .i64 0]) ?_ 1 _ rfl; (with_reducible repeat (first | refine blk_drewN ?_ _ | refine blk_drew ?_ | refine blk_alloc ?_ _)); refine blk_put (cs := #[.int .i64 0, .int .i64 0, .int .i64 0]) ?_ 0 _ rfl; (with_reducible repeat (first | refine blk_drewN ?_ _ | refine blk_drew ?_ | refine blk_alloc ?_ _)); exact BK346.out⟩
                        have n5_ : Aside0 (Below w.heap.size w (((w40.setCell ⟨gb346, 0, none⟩ (.int .i64 t340)).setCell ⟨gb346, 1, none⟩ (.int .i64 t341)).setCell ⟨gb346, 2, none⟩ (.int .i64 t342))) := ⟨by repeat (first | (with_reducible first | exact HB.out | apply below_alloc | apply pw_below_drewN | apply below_drew1 | refine below_set ?_ GE327.out | refine below_set ?_ GE335.out | refine below_set ?_ GE346.out) | exact HB.out)⟩
                        (try clear HO334)
                        (try clear HO345)
                        (try clear BK327)
                        (try clear BK335)
                        (try clear BK346)
                        (try clear HB)
                        generalize (((w40.setCell ⟨gb346, 0, none⟩ (.int .i64 t340)).setCell ⟨gb346, 1, none⟩ (.int .i64 t341)).setCell ⟨gb346, 2, none⟩ (.int .i64 t342)) = w44 at n0_ n1_ n2_ n3_ n4_ n5_ ⊢
                        have HO334 := n0_
                        have HO345 := n1_
                        have BK327 := n2_
                        have BK335 := n3_
                        have BK346 := n4_
                        have HB := n5_
                        clear n0_ n1_ n2_ n3_ n4_ n5_
                        have n0_ := Aside0.mk (Kd.R_drew HO334.out)
                        have n1_ := Aside0.mk (Kd.R_drew HO345.out)
                        have n2_ := Aside0.mk (blk_drew BK327.out)
                        have n3_ := Aside0.mk (blk_drew BK335.out)
                        have n4_ := Aside0.mk (blk_drew BK346.out)
                        have n5_ := Aside0.mk (below_drew1 HB.out)
                        clear HO334
                        clear HO345
                        clear BK327
                        clear BK335
                        clear BK346
                        clear HB
                        have HO334 := n0_
                        have HO345 := n1_
                        have BK327 := n2_
                        have BK335 := n3_
                        have BK346 := n4_
                        have HB := n5_
                        clear n0_ n1_ n2_ n3_ n4_ n5_
                        have q46 : ((ji12) : Int) ≤ ((l1.length : Int) : Int) := of_decide_eq_true (by first | (with_reducible assumption) | assumption)
                        obtain ⟨i046, hi046, _, hsz46, _⟩ := info_parts info38
                        have hroom46 : l1.length ≤ c1 := HC1.out
                        have hC46 : Kd.C k38 _ A1 l1.length l1 := HR1.out
                        have q046 : (0 : Int) ≤ ((ji12) : Int) := of_decide_eq_true (by first | (with_reducible assumption) | assumption)
                        have hcut46 := cut_from (P := Try.prog) 24 38 .i64 Try.underlying24 hi046 3 hsz46 A1 l1.length c1 (ji12) q046 q46
                        have hr46 := Kd.C_drop (m := ((ji12) : Int).toNat) (c := c1) hC46 (by omega) hroom46
                        obtain ⟨A46, hA46⟩ : ∃ A1_, A1_ = (if c1 = ((ji12) : Int).toNat then A1 else (A1 : Option Addr).map (·.add (((ji12) : Int).toNat * 3))) := ⟨_, rfl⟩
                        obtain ⟨c46, hc46⟩ : ∃ c1_, c1_ = c1 - ((ji12) : Int).toNat := ⟨_, rfl⟩
                        have hy46 : y347.length = l1.length - ((ji12) : Int).toNat := (by rw [Ny347.out, List.length_drop] <;> omega)
                        rw [show (l1).drop ((ji12) : Int).toNat = y347 from Ny347.out.symm] at hr46
                        replace hr46 : Kd.C k38 _ A46 y347.length y347 := (by rw [hA46]; exact hr46)
                        rw [← hy46, ← hA46, ← hc46] at hcut46
                        have HR350 := Aside0.mk hr46
                        have HC350 := Aside0.mk (show y347.length ≤ c46 from by rw [hy46, hc46]; exact Nat.sub_le_sub_right hroom46 _)
                        clear hr46 hC46 hroom46 hi046 hsz46 hc46
                        have KY46 := Aside0.mk hy46
                        have KA46 := Aside0.mk hA46
                        clear hy46 hA46
                        replace q46 := eq_true q46
                        refine start_ (n := 11) (S := fun w' => w'.cell? ⟨gb346, 0, none⟩ = some (.int .i64 t340) ∧ w'.cell? ⟨gb346, 1, none⟩ = some (.int .i64 t341) ∧ w'.cell? ⟨gb346, 2, none⟩ = some (.int .i64 t342)) (ds := []) #[false, false, false, false, false, false, false, false, false, false, false] (by kernel_rfl) rfl rfl ⟨(blk_cell BK346.out 0).trans rfl, (blk_cell BK346.out 1).trans rfl, (blk_cell BK346.out 2).trans rfl⟩ (fun hHeld => ?_); refine with_tabW sawtoothlaw16_FlightAlike.tab7 sawtoothlaw16_FlightAlike.bits7 (fun HT_ HW_ => ?_)
                        generalize w44.drew = w45 at HO334 HO345 BK327 BK335 BK346 HB HR350 hHeld ⊢
                        refine pure_ (i := 1) (N := some 47) (v := ?_) (a' := ?_) #[false, true, false, false, false, false, false, false, false, false, false] rfl rfl (any_of HT_.out (by kernel_rfl)) (fun _ _ _ h => h) (Or.inl ⟨by rfl, ?_⟩) ?_ ?_
                        rotate_left
                        · intro w'
                          go_simp
                          with_reducible rfl
                        rotate_left
                        · simp only [Act.put, List.setIfInBounds_toArray, List.set_cons_zero, List.set_cons_succ, i64_w, i32_w]
                          rfl
                        refine pure_ (i := 2) (N := some 48) (v := ?_) (a' := ?_) #[false, true, true, false, false, false, false, false, false, false, false] rfl rfl (any_of HT_.out (by kernel_rfl)) (fun _ _ _ h => h) (Or.inl ⟨by rfl, ?_⟩) ?_ ?_
                        rotate_left
                        · intro w'
                          go_simp
                          with_reducible rfl
                        rotate_left
                        · simp only [Act.put, List.setIfInBounds_toArray, List.set_cons_zero, List.set_cons_succ, i64_w, i32_w]
                          rfl
                        refine pure_ (i := 3) (N := some 49) (v := ?_) (a' := ?_) #[false, true, true, true, false, false, false, false, false, false, false] rfl rfl (any_of HT_.out (by kernel_rfl)) (fun _ _ _ h => h) (Or.inl ⟨by rfl, ?_⟩) ?_ ?_
                        rotate_left
                        · intro w'
                          go_simp
                          with_reducible rfl
                        rotate_left
                        · simp only [Act.put, List.setIfInBounds_toArray, List.set_cons_zero, List.set_cons_succ, i64_w, i32_w]
                          rfl
                        refine take_ (i := 0) (N := some 46) (v := ?_) (a' := ?_) #[true, true, true, true, false, false, false, false, false, false, false] rfl rfl (take_ofW HT_.out HW_.out (by kernel_rfl)) (fun _ _ _ h => h) (Or.inl ⟨by rfl, ?_⟩) hHeld ?_ ?_
                        rotate_left
                        · rintro w' ⟨s0, s1, s2⟩
                          go_simp
                          with_reducible rfl
                        rotate_left
                        · simp only [Act.put, List.setIfInBounds_toArray, List.set_cons_zero, List.set_cons_succ, i64_w, i32_w]
                          rfl
                        refine join_ (σ := Value × Nat) 2 #[true, true, true, true, true, true, true, true, true, false, false] (fun s_ => [(50, .tuple #[.agg #[.int .i64 t351, .int .i64 t352, .int .i64 t353], s_.1]), (15, .pointer (some ⟨s_.2, 0, none⟩)), (45, .tuple #[.agg #[.int .i64 t351, .int .i64 t352, .int .i64 t353], s_.1]), (51, .agg #[.int .i64 t351, .int .i64 t352, .int .i64 t353]), (52, s_.1)]) (fun s_ w' => (w'.cell? ⟨gb346, 0, none⟩ = some (.int .i64 t340) ∧ w'.cell? ⟨gb346, 1, none⟩ = some (.int .i64 t341) ∧ w'.cell? ⟨gb346, 2, none⟩ = some (.int .i64 t342)) ∧ (Kd.R (Kd.int .i64) 29 w' w.heap.size (fun k_ => some k_ ≠ (v344 : Value).ownBlock ∧ some k_ ≠ (s_.1 : Value).ownBlock) v333 t332) ∧ (Kd.R (Kd.int .i64) 29 w' w.heap.size (fun k_ => some k_ ≠ (v333 : Value).ownBlock ∧ some k_ ≠ (s_.1 : Value).ownBlock) v344 t343) ∧ (Kd.R (Kd.int .i64) 29 w' w.heap.size (fun k_ => some k_ ≠ (v333 : Value).ownBlock ∧ some k_ ≠ (v344 : Value).ownBlock) s_.1 t354) ∧ (w'.heap[gb327]? = some (.cells #[.int .i64 a0_0, .int .i64 a0_1, .int .i64 a0_2] 23 (0, 0))) ∧ (w'.heap[gb335]? = some (.cells #[.int .i64 t329, .int .i64 t330, .int .i64 t331] 23 (0, 0))) ∧ (w'.heap[gb346]? = some (.cells #[.int .i64 t340, .int .i64 t341, .int .i64 t342] 23 (0, 0))) ∧ (w'.heap[s_.2]? = some (.cells #[.int .i64 0, .int .i64 0, .int .i64 0] 23 (0, 0))) ∧ (w.heap.size ≤ s_.2) ∧ (w.heap.size ≤ s_.2) ∧ (gb327 ≠ s_.2) ∧ (s_.2 ≠ gb327) ∧ (gb335 ≠ s_.2) ∧ (s_.2 ≠ gb335) ∧ (gb346 ≠ s_.2) ∧ (s_.2 ≠ gb346) ∧ (Below w.heap.size w w')) ?_ ?_
                        rotate_left
                        · intro hCont
                          refine two_ (i := 4) (j := 8) (Ni := some 50) (Nj := some 15) #[true, true, true, true, true, false, false, false, false, false, false] #[true, true, true, true, false, false, false, false, true, false, false] rfl rfl rfl rfl (two_of HT_.out (by kernel_rfl)) (by decide) (by decide) (fun K hK => ?_) (fun K hK => ?_)
                          · skip
                            refine goes_ Try.func10 (by kernel_rfl) rfl #[.agg #[.int .i64 t340, .int .i64 t341, .int .i64 t342], .slice A46 y347.length c46] (by rfl) rfl rfl (by (try simp only [List.map_toArray, List.map_cons, List.map_nil]); first | done | rfl | (simp only [List.length_drop, List.length_take]; rfl)) ?_
                            with_reducible refine (flight_Do.calls k t340 t341 t342 _ _ y347 t351 t352 t353 t354 _ ?side1 ?side2 A18.out).mono ?_
                            (case side1 => repeat (first | exact (Kd.C_below HR350.out HB.out) | (with_reducible refine Kd.C_alloc ?_ _) | (with_reducible refine Kd.C_drewN ?_ _) | (with_reducible refine Kd.C_drew ?_)))
                            (case side2 => exact HC350.out)
                            rintro e w47 ⟨v355, rfl, ho0, hb⟩
                            refine ⟨_, rfl, ?_⟩
                            have n0_ := Aside0.mk (Kd.R_elder' (by (with_reducible repeat (first | apply Kd.R_alloc | apply Kd.R_drewN | apply Kd.R_drew)); exact HO334.out) (Kd.R_base ho0) hb)
                            have n1_ := Aside0.mk (Kd.R_elder' (by (with_reducible repeat (first | apply Kd.R_alloc | apply Kd.R_drewN | apply Kd.R_drew)); exact HO345.out) (Kd.R_base ho0) hb)
                            have n2_ := Aside0.mk (Kd.R_lower (Kd.R_new' (Kd.R_new' ho0 (Kd.R_lt (by (with_reducible repeat (first | apply Kd.R_alloc | apply Kd.R_drewN | apply Kd.R_drew)); exact HO334.out))) (Kd.R_lt (by (with_reducible repeat (first | apply Kd.R_alloc | apply Kd.R_drewN | apply Kd.R_drew)); exact HO345.out))) (below_size (by repeat (first | (with_reducible first | exact HB.out | apply below_alloc | apply pw_below_drewN | apply below_drew1 | refine below_set ?_ GE327.out | refine below_set ?_ GE335.out | refine below_set ?_ GE346.out) | exact HB.out))))
                            have n3_ := Aside0.mk (blk_below (g := gb327) (o := .cells #[.int .i64 a0_0, .int .i64 a0_1, .int .i64 a0_2] 23 (0, 0)) (by (with_reducible repeat (first | refine blk_drewN ?_ _ | refine blk_drew ?_ | refine blk_alloc ?_ _)); exact BK327.out) hb)
                            have n4_ := Aside0.mk (blk_below (g := gb335) (o := .cells #[.int .i64 t329, .int .i64 t330, .int .i64 t331] 23 (0, 0)) (by (with_reducible repeat (first | refine blk_drewN ?_ _ | refine blk_drew ?_ | refine blk_alloc ?_ _)); exact BK335.out) hb)
                            have n5_ := Aside0.mk (blk_below (g := gb346) (o := .cells #[.int .i64 t340, .int .i64 t341, .int .i64 t342] 23 (0, 0)) (by (with_reducible repeat (first | refine blk_drewN ?_ _ | refine blk_drew ?_ | refine blk_alloc ?_ _)); exact BK346.out) hb)
                            have n6_ := Aside0.mk (below_step (by repeat (first | (with_reducible first | exact HB.out | apply below_alloc | apply pw_below_drewN | apply below_drew1 | refine below_set ?_ GE327.out | refine below_set ?_ GE335.out | refine below_set ?_ GE346.out) | exact HB.out)) hb)
                            clear HO334
                            clear HO345
                            clear BK327
                            clear BK335
                            clear BK346
                            clear HB
                            have HO334 := n0_
                            have HO345 := n1_
                            have HO356 := n2_
                            have BK327 := n3_
                            have BK335 := n4_
                            have BK346 := n5_
                            have HB := n6_
                            clear n0_ n1_ n2_ n3_ n4_ n5_ n6_
                            (try clear hb)
                            (try clear hb2)
                            (try clear hk)
                            (try clear hi)
                            (try clear ho0)
                            refine hK.out _ _ ⟨(blk_cell BK346.out 0).trans rfl, (blk_cell BK346.out 1).trans rfl, (blk_cell BK346.out 2).trans rfl⟩ (fun hHeld => ?_)
                            clear hK K
                            refine norm_ (a' := ?_) ?_ ?_
                            rotate_left
                            · show Act.put _ (some 50) _ = _
                              simp only [Act.put, List.setIfInBounds_toArray, List.set_cons_zero, List.set_cons_succ, i64_w, i32_w]
                              rfl
                            refine pure_ (i := 5) (N := some 45) (v := ?_) (a' := ?_) #[true, true, true, true, true, true, false, false, false, false, false] rfl rfl (any_of HT_.out (by kernel_rfl)) (fun _ _ _ h => h) (Or.inl ⟨by rfl, ?_⟩) ?_ ?_
                            rotate_left
                            · intro w'
                              go_simp
                              with_reducible rfl
                            rotate_left
                            · simp only [Act.put, List.setIfInBounds_toArray, List.set_cons_zero, List.set_cons_succ, i64_w, i32_w]
                              rfl
                            refine pure_ (i := 6) (N := some 51) (v := ?_) (a' := ?_) #[true, true, true, true, true, true, true, false, false, false, false] rfl rfl (any_of HT_.out (by kernel_rfl)) (fun _ _ _ h => h) (Or.inl ⟨by rfl, ?_⟩) ?_ ?_
                            rotate_left
                            · intro w'
                              go_simp
                              with_reducible rfl
                            rotate_left
                            · simp only [Act.put, List.setIfInBounds_toArray, List.set_cons_zero, List.set_cons_succ, i64_w, i32_w]
                              rfl
                            refine pure_ (i := 7) (N := some 52) (v := ?_) (a' := ?_) #[true, true, true, true, true, true, true, true, false, false, false] rfl rfl (any_of HT_.out (by kernel_rfl)) (fun _ _ _ h => h) (Or.inl ⟨by rfl, ?_⟩) ?_ ?_
                            rotate_left
                            · intro w'
                              go_simp
                              with_reducible rfl
                            rotate_left
                            · simp only [Act.put, List.setIfInBounds_toArray, List.set_cons_zero, List.set_cons_succ, i64_w, i32_w]
                              rfl
                            refine one_ (i := 8) (N := some 15) #[true, true, true, true, true, true, true, true, true, false, false] rfl rfl (one_of HT_.out (by kernel_rfl)) (by decide) (fun K hK => ?_)
                            refine box_step ?hg (N := 15) ?hd (cs := #[.int .i64 0, .int .i64 0, .int .i64 0]) (t := 23) ?hr ?_; (case hd => rfl); (case hg => rfl); (case hr => first | (go_simp; done) | (go_simp; rfl))
                            intro gb357 hg w48 hbox hb
                            have n0_ := Aside0.mk (Kd.R_below (by (with_reducible repeat (first | apply Kd.R_alloc | apply Kd.R_drewN | apply Kd.R_drew)); exact HO334.out) hb)
                            have n1_ := Aside0.mk (Kd.R_below (by (with_reducible repeat (first | apply Kd.R_alloc | apply Kd.R_drewN | apply Kd.R_drew)); exact HO345.out) hb)
                            have n2_ := Aside0.mk (Kd.R_below (by (with_reducible repeat (first | apply Kd.R_alloc | apply Kd.R_drewN | apply Kd.R_drew)); exact HO356.out) hb)
                            have n3_ := Aside0.mk (blk_below (g := gb327) (o := .cells #[.int .i64 a0_0, .int .i64 a0_1, .int .i64 a0_2] 23 (0, 0)) (by (with_reducible repeat (first | refine blk_drewN ?_ _ | refine blk_drew ?_ | refine blk_alloc ?_ _)); exact BK327.out) hb)
                            have n4_ := Aside0.mk (blk_below (g := gb335) (o := .cells #[.int .i64 t329, .int .i64 t330, .int .i64 t331] 23 (0, 0)) (by (with_reducible repeat (first | refine blk_drewN ?_ _ | refine blk_drew ?_ | refine blk_alloc ?_ _)); exact BK335.out) hb)
                            have n5_ := Aside0.mk (blk_below (g := gb346) (o := .cells #[.int .i64 t340, .int .i64 t341, .int .i64 t342] 23 (0, 0)) (by (with_reducible repeat (first | refine blk_drewN ?_ _ | refine blk_drew ?_ | refine blk_alloc ?_ _)); exact BK346.out) hb)
                            have n6_ := Aside0.mk (below_step (by repeat (first | (with_reducible first | exact HB.out | apply below_alloc | apply pw_below_drewN | apply below_drew1 | refine below_set ?_ GE327.out | refine below_set ?_ GE335.out | refine below_set ?_ GE346.out) | exact HB.out)) hb)
                            have n7_ := Aside0.mk (hbox)
                            have n8_ := Aside0.mk ((by rw [hg]; exact (below_size (by repeat (first | (with_reducible first | exact HB.out | apply below_alloc | apply pw_below_drewN | apply below_drew1 | refine below_set ?_ GE327.out | refine below_set ?_ GE335.out | refine below_set ?_ GE346.out) | exact HB.out))) : w.heap.size ≤ gb357))
                            have n9_ := Aside0.mk ((by rw [hg]; exact (below_size (by repeat (first | (with_reducible first | exact HB.out | apply below_alloc | apply pw_below_drewN | apply below_drew1 | refine below_set ?_ GE327.out | refine below_set ?_ GE335.out | refine below_set ?_ GE346.out) | exact HB.out))) : w.heap.size ≤ gb357))
                            have n10_ := Aside0.mk ((by rw [hg]; exact Nat.ne_of_lt (blk_lt (g := gb327) (o := .cells #[.int .i64 a0_0, .int .i64 a0_1, .int .i64 a0_2] 23 (0, 0)) (by (with_reducible repeat (first | refine blk_drewN ?_ _ | refine blk_drew ?_ | refine blk_alloc ?_ _)); exact BK327.out)) : gb327 ≠ gb357))
                            have n11_ := Aside0.mk ((by rw [hg]; exact Nat.ne_of_gt (blk_lt (g := gb327) (o := .cells #[.int .i64 a0_0, .int .i64 a0_1, .int .i64 a0_2] 23 (0, 0)) (by (with_reducible repeat (first | refine blk_drewN ?_ _ | refine blk_drew ?_ | refine blk_alloc ?_ _)); exact BK327.out)) : gb357 ≠ gb327))
                            have n12_ := Aside0.mk ((by rw [hg]; exact Nat.ne_of_lt (blk_lt (g := gb335) (o := .cells #[.int .i64 t329, .int .i64 t330, .int .i64 t331] 23 (0, 0)) (by (with_reducible repeat (first | refine blk_drewN ?_ _ | refine blk_drew ?_ | refine blk_alloc ?_ _)); exact BK335.out)) : gb335 ≠ gb357))
                            have n13_ := Aside0.mk ((by rw [hg]; exact Nat.ne_of_gt (blk_lt (g := gb335) (o := .cells #[.int .i64 t329, .int .i64 t330, .int .i64 t331] 23 (0, 0)) (by (with_reducible repeat (first | refine blk_drewN ?_ _ | refine blk_drew ?_ | refine blk_alloc ?_ _)); exact BK335.out)) : gb357 ≠ gb335))
                            have n14_ := Aside0.mk ((by rw [hg]; exact Nat.ne_of_lt (blk_lt (g := gb346) (o := .cells #[.int .i64 t340, .int .i64 t341, .int .i64 t342] 23 (0, 0)) (by (with_reducible repeat (first | refine blk_drewN ?_ _ | refine blk_drew ?_ | refine blk_alloc ?_ _)); exact BK346.out)) : gb346 ≠ gb357))
                            have n15_ := Aside0.mk ((by rw [hg]; exact Nat.ne_of_gt (blk_lt (g := gb346) (o := .cells #[.int .i64 t340, .int .i64 t341, .int .i64 t342] 23 (0, 0)) (by (with_reducible repeat (first | refine blk_drewN ?_ _ | refine blk_drew ?_ | refine blk_alloc ?_ _)); exact BK346.out)) : gb357 ≠ gb346))
                            clear HO334
                            clear HO345
                            clear HO356
                            clear BK327
                            clear BK335
                            clear BK346
                            clear HB
                            have HO334 := n0_
                            have HO345 := n1_
                            have HO356 := n2_
                            have BK327 := n3_
                            have BK335 := n4_
                            have BK346 := n5_
                            have HB := n6_
                            have BK357 := n7_
                            have GW357 := n8_
                            have GE357 := n9_
                            have NB327_357 := n10_
                            have NB357_327 := n11_
                            have NB335_357 := n12_
                            have NB357_335 := n13_
                            have NB346_357 := n14_
                            have NB357_346 := n15_
                            clear n0_ n1_ n2_ n3_ n4_ n5_ n6_ n7_ n8_ n9_ n10_ n11_ n12_ n13_ n14_ n15_
                            clear hb hbox hg
                            refine hK.out _ _ ⟨(blk_cell BK346.out 0).trans rfl, (blk_cell BK346.out 1).trans rfl, (blk_cell BK346.out 2).trans rfl⟩ (fun hHeld => ?_)
                            clear hK K
                            refine norm_ (a' := ?_) ?_ ?_
                            rotate_left
                            · show Act.put _ (some 15) _ = _
                              simp only [Act.put, List.setIfInBounds_toArray, List.set_cons_zero, List.set_cons_succ, i64_w, i32_w]
                              rfl
                            exact norm_ (by simp only [putAll, Act.put, List.setIfInBounds_toArray, List.set_cons_zero, List.set_cons_succ]) (hCont (v355, gb357) _ ⟨hHeld, (by (with_reducible repeat (first | apply Kd.R_alloc | apply Kd.R_drewN | apply Kd.R_drew)); exact HO334.out), (by (with_reducible repeat (first | apply Kd.R_alloc | apply Kd.R_drewN | apply Kd.R_drew)); exact HO345.out), (by (with_reducible repeat (first | apply Kd.R_alloc | apply Kd.R_drewN | apply Kd.R_drew)); exact Kd.R_mono HO356.out (fun _ hk => ⟨hk.1.2, hk.2⟩)), (by (with_reducible repeat (first | refine blk_drewN ?_ _ | refine blk_drew ?_ | refine blk_alloc ?_ _)); exact BK327.out), (by (with_reducible repeat (first | refine blk_drewN ?_ _ | refine blk_drew ?_ | refine blk_alloc ?_ _)); exact BK335.out), (by (with_reducible repeat (first | refine blk_drewN ?_ _ | refine blk_drew ?_ | refine blk_alloc ?_ _)); exact BK346.out), (by (with_reducible repeat (first | refine blk_drewN ?_ _ | refine blk_drew ?_ | refine blk_alloc ?_ _)); exact BK357.out), GW357.out, GE357.out, NB327_357.out, NB357_327.out, NB335_357.out, NB357_335.out, NB346_357.out, NB357_346.out, (by repeat (first | (with_reducible first | exact HB.out | apply below_alloc | apply pw_below_drewN | apply below_drew1 | refine below_set ?_ GE327.out | refine below_set ?_ GE335.out | refine below_set ?_ GE346.out | refine below_set ?_ GE357.out) | exact HB.out))⟩)
                          · skip
                            refine box_step ?hg (N := 15) ?hd (cs := #[.int .i64 0, .int .i64 0, .int .i64 0]) (t := 23) ?hr ?_; (case hd => rfl); (case hg => rfl); (case hr => first | (go_simp; done) | (go_simp; rfl))
                            intro gb357 hg w47 hbox hb
                            have n0_ := Aside0.mk (Kd.R_below (by (with_reducible repeat (first | apply Kd.R_alloc | apply Kd.R_drewN | apply Kd.R_drew)); exact HO334.out) hb)
                            have n1_ := Aside0.mk (Kd.R_below (by (with_reducible repeat (first | apply Kd.R_alloc | apply Kd.R_drewN | apply Kd.R_drew)); exact HO345.out) hb)
                            have n2_ := Aside0.mk (blk_below (g := gb327) (o := .cells #[.int .i64 a0_0, .int .i64 a0_1, .int .i64 a0_2] 23 (0, 0)) (by (with_reducible repeat (first | refine blk_drewN ?_ _ | refine blk_drew ?_ | refine blk_alloc ?_ _)); exact BK327.out) hb)
                            have n3_ := Aside0.mk (blk_below (g := gb335) (o := .cells #[.int .i64 t329, .int .i64 t330, .int .i64 t331] 23 (0, 0)) (by (with_reducible repeat (first | refine blk_drewN ?_ _ | refine blk_drew ?_ | refine blk_alloc ?_ _)); exact BK335.out) hb)
                            have n4_ := Aside0.mk (blk_below (g := gb346) (o := .cells #[.int .i64 t340, .int .i64 t341, .int .i64 t342] 23 (0, 0)) (by (with_reducible repeat (first | refine blk_drewN ?_ _ | refine blk_drew ?_ | refine blk_alloc ?_ _)); exact BK346.out) hb)
                            have n5_ := Aside0.mk (below_step (by repeat (first | (with_reducible first | exact HB.out | apply below_alloc | apply pw_below_drewN | apply below_drew1 | refine below_set ?_ GE327.out | refine below_set ?_ GE335.out | refine below_set ?_ GE346.out) | exact HB.out)) hb)
                            have n6_ := Aside0.mk (hbox)
                            have n7_ := Aside0.mk ((by rw [hg]; exact (below_size (by repeat (first | (with_reducible first | exact HB.out | apply below_alloc | apply pw_below_drewN | apply below_drew1 | refine below_set ?_ GE327.out | refine below_set ?_ GE335.out | refine below_set ?_ GE346.out) | exact HB.out))) : w.heap.size ≤ gb357))
                            have n8_ := Aside0.mk ((by rw [hg]; exact (below_size (by repeat (first | (with_reducible first | exact HB.out | apply below_alloc | apply pw_below_drewN | apply below_drew1 | refine below_set ?_ GE327.out | refine below_set ?_ GE335.out | refine below_set ?_ GE346.out) | exact HB.out))) : w.heap.size ≤ gb357))
                            have n9_ := Aside0.mk ((by rw [hg]; exact Nat.ne_of_lt (blk_lt (g := gb327) (o := .cells #[.int .i64 a0_0, .int .i64 a0_1, .int .i64 a0_2] 23 (0, 0)) (by (with_reducible repeat (first | refine blk_drewN ?_ _ | refine blk_drew ?_ | refine blk_alloc ?_ _)); exact BK327.out)) : gb327 ≠ gb357))
                            have n10_ := Aside0.mk ((by rw [hg]; exact Nat.ne_of_gt (blk_lt (g := gb327) (o := .cells #[.int .i64 a0_0, .int .i64 a0_1, .int .i64 a0_2] 23 (0, 0)) (by (with_reducible repeat (first | refine blk_drewN ?_ _ | refine blk_drew ?_ | refine blk_alloc ?_ _)); exact BK327.out)) : gb357 ≠ gb327))
                            have n11_ := Aside0.mk ((by rw [hg]; exact Nat.ne_of_lt (blk_lt (g := gb335) (o := .cells #[.int .i64 t329, .int .i64 t330, .int .i64 t331] 23 (0, 0)) (by (with_reducible repeat (first | refine blk_drewN ?_ _ | refine blk_drew ?_ | refine blk_alloc ?_ _)); exact BK335.out)) : gb335 ≠ gb357))
                            have n12_ := Aside0.mk ((by rw [hg]; exact Nat.ne_of_gt (blk_lt (g := gb335) (o := .cells #[.int .i64 t329, .int .i64 t330, .int .i64 t331] 23 (0, 0)) (by (with_reducible repeat (first | refine blk_drewN ?_ _ | refine blk_drew ?_ | refine blk_alloc ?_ _)); exact BK335.out)) : gb357 ≠ gb335))
                            have n13_ := Aside0.mk ((by rw [hg]; exact Nat.ne_of_lt (blk_lt (g := gb346) (o := .cells #[.int .i64 t340, .int .i64 t341, .int .i64 t342] 23 (0, 0)) (by (with_reducible repeat (first | refine blk_drewN ?_ _ | refine blk_drew ?_ | refine blk_alloc ?_ _)); exact BK346.out)) : gb346 ≠ gb357))
                            have n14_ := Aside0.mk ((by rw [hg]; exact Nat.ne_of_gt (blk_lt (g := gb346) (o := .cells #[.int .i64 t340, .int .i64 t341, .int .i64 t342] 23 (0, 0)) (by (with_reducible repeat (first | refine blk_drewN ?_ _ | refine blk_drew ?_ | refine blk_alloc ?_ _)); exact BK346.out)) : gb357 ≠ gb346))
                            clear HO334
                            clear HO345
                            clear BK327
                            clear BK335
                            clear BK346
                            clear HB
                            have HO334 := n0_
                            have HO345 := n1_
                            have BK327 := n2_
                            have BK335 := n3_
                            have BK346 := n4_
                            have HB := n5_
                            have BK357 := n6_
                            have GW357 := n7_
                            have GE357 := n8_
                            have NB327_357 := n9_
                            have NB357_327 := n10_
                            have NB335_357 := n11_
                            have NB357_335 := n12_
                            have NB346_357 := n13_
                            have NB357_346 := n14_
                            clear n0_ n1_ n2_ n3_ n4_ n5_ n6_ n7_ n8_ n9_ n10_ n11_ n12_ n13_ n14_
                            clear hb hbox hg
                            refine hK.out _ _ ⟨(blk_cell BK346.out 0).trans rfl, (blk_cell BK346.out 1).trans rfl, (blk_cell BK346.out 2).trans rfl⟩ (fun hHeld => ?_)
                            clear hK K
                            refine norm_ (a' := ?_) ?_ ?_
                            rotate_left
                            · show Act.put _ (some 15) _ = _
                              simp only [Act.put, List.setIfInBounds_toArray, List.set_cons_zero, List.set_cons_succ, i64_w, i32_w]
                              rfl
                            refine one_ (i := 4) (N := some 50) #[true, true, true, true, true, false, false, false, true, false, false] rfl rfl (one_of HT_.out (by kernel_rfl)) (by decide) (fun K hK => ?_)
                            refine goes_ Try.func10 (by kernel_rfl) rfl #[.agg #[.int .i64 t340, .int .i64 t341, .int .i64 t342], .slice A46 y347.length c46] (by rfl) rfl rfl (by (try simp only [List.map_toArray, List.map_cons, List.map_nil]); first | done | rfl | (simp only [List.length_drop, List.length_take]; rfl)) ?_
                            with_reducible refine (flight_Do.calls k t340 t341 t342 _ _ y347 t351 t352 t353 t354 _ ?side1 ?side2 A18.out).mono ?_
                            (case side1 => repeat (first | exact (Kd.C_below HR350.out HB.out) | (with_reducible refine Kd.C_alloc ?_ _) | (with_reducible refine Kd.C_drewN ?_ _) | (with_reducible refine Kd.C_drew ?_)))
                            (case side2 => exact HC350.out)
                            rintro e w48 ⟨v355, rfl, ho0, hb⟩
                            refine ⟨_, rfl, ?_⟩
                            have n0_ := Aside0.mk (Kd.R_elder' (by (with_reducible repeat (first | apply Kd.R_alloc | apply Kd.R_drewN | apply Kd.R_drew)); exact HO334.out) (Kd.R_base ho0) hb)
                            have n1_ := Aside0.mk (Kd.R_elder' (by (with_reducible repeat (first | apply Kd.R_alloc | apply Kd.R_drewN | apply Kd.R_drew)); exact HO345.out) (Kd.R_base ho0) hb)
                            have n2_ := Aside0.mk (Kd.R_lower (Kd.R_new' (Kd.R_new' ho0 (Kd.R_lt (by (with_reducible repeat (first | apply Kd.R_alloc | apply Kd.R_drewN | apply Kd.R_drew)); exact HO334.out))) (Kd.R_lt (by (with_reducible repeat (first | apply Kd.R_alloc | apply Kd.R_drewN | apply Kd.R_drew)); exact HO345.out))) (below_size (by repeat (first | (with_reducible first | exact HB.out | apply below_alloc | apply pw_below_drewN | apply below_drew1 | refine below_set ?_ GE327.out | refine below_set ?_ GE335.out | refine below_set ?_ GE346.out | refine below_set ?_ GE357.out) | exact HB.out))))
                            have n3_ := Aside0.mk (blk_below (g := gb327) (o := .cells #[.int .i64 a0_0, .int .i64 a0_1, .int .i64 a0_2] 23 (0, 0)) (by (with_reducible repeat (first | refine blk_drewN ?_ _ | refine blk_drew ?_ | refine blk_alloc ?_ _)); exact BK327.out) hb)
                            have n4_ := Aside0.mk (blk_below (g := gb335) (o := .cells #[.int .i64 t329, .int .i64 t330, .int .i64 t331] 23 (0, 0)) (by (with_reducible repeat (first | refine blk_drewN ?_ _ | refine blk_drew ?_ | refine blk_alloc ?_ _)); exact BK335.out) hb)
                            have n5_ := Aside0.mk (blk_below (g := gb346) (o := .cells #[.int .i64 t340, .int .i64 t341, .int .i64 t342] 23 (0, 0)) (by (with_reducible repeat (first | refine blk_drewN ?_ _ | refine blk_drew ?_ | refine blk_alloc ?_ _)); exact BK346.out) hb)
                            have n6_ := Aside0.mk (blk_below (g := gb357) (o := .cells #[.int .i64 0, .int .i64 0, .int .i64 0] 23 (0, 0)) (by (with_reducible repeat (first | refine blk_drewN ?_ _ | refine blk_drew ?_ | refine blk_alloc ?_ _)); exact BK357.out) hb)
                            have n7_ := Aside0.mk (below_step (by repeat (first | (with_reducible first | exact HB.out | apply below_alloc | apply pw_below_drewN | apply below_drew1 | refine below_set ?_ GE327.out | refine below_set ?_ GE335.out | refine below_set ?_ GE346.out | refine below_set ?_ GE357.out) | exact HB.out)) hb)
                            clear HO334
                            clear HO345
                            clear BK327
                            clear BK335
                            clear BK346
                            clear BK357
                            clear HB
                            have HO334 := n0_
                            have HO345 := n1_
                            have HO356 := n2_
                            have BK327 := n3_
                            have BK335 := n4_
                            have BK346 := n5_
                            have BK357 := n6_
                            have HB := n7_
                            clear n0_ n1_ n2_ n3_ n4_ n5_ n6_ n7_
                            (try clear hb)
                            (try clear hb2)
                            (try clear hk)
                            (try clear hi)
                            (try clear ho0)
                            refine hK.out _ _ ⟨(blk_cell BK346.out 0).trans rfl, (blk_cell BK346.out 1).trans rfl, (blk_cell BK346.out 2).trans rfl⟩ (fun hHeld => ?_)
                            clear hK K
                            refine norm_ (a' := ?_) ?_ ?_
                            rotate_left
                            · show Act.put _ (some 50) _ = _
                              simp only [Act.put, List.setIfInBounds_toArray, List.set_cons_zero, List.set_cons_succ, i64_w, i32_w]
                              rfl
                            refine pure_ (i := 5) (N := some 45) (v := ?_) (a' := ?_) #[true, true, true, true, true, true, false, false, true, false, false] rfl rfl (any_of HT_.out (by kernel_rfl)) (fun _ _ _ h => h) (Or.inl ⟨by rfl, ?_⟩) ?_ ?_
                            rotate_left
                            · intro w'
                              go_simp
                              with_reducible rfl
                            rotate_left
                            · simp only [Act.put, List.setIfInBounds_toArray, List.set_cons_zero, List.set_cons_succ, i64_w, i32_w]
                              rfl
                            refine pure_ (i := 6) (N := some 51) (v := ?_) (a' := ?_) #[true, true, true, true, true, true, true, false, true, false, false] rfl rfl (any_of HT_.out (by kernel_rfl)) (fun _ _ _ h => h) (Or.inl ⟨by rfl, ?_⟩) ?_ ?_
                            rotate_left
                            · intro w'
                              go_simp
                              with_reducible rfl
                            rotate_left
                            · simp only [Act.put, List.setIfInBounds_toArray, List.set_cons_zero, List.set_cons_succ, i64_w, i32_w]
                              rfl
                            refine pure_ (i := 7) (N := some 52) (v := ?_) (a' := ?_) #[true, true, true, true, true, true, true, true, true, false, false] rfl rfl (any_of HT_.out (by kernel_rfl)) (fun _ _ _ h => h) (Or.inl ⟨by rfl, ?_⟩) ?_ ?_
                            rotate_left
                            · intro w'
                              go_simp
                              with_reducible rfl
                            rotate_left
                            · simp only [Act.put, List.setIfInBounds_toArray, List.set_cons_zero, List.set_cons_succ, i64_w, i32_w]
                              rfl
                            exact norm_ (by simp only [putAll, Act.put, List.setIfInBounds_toArray, List.set_cons_zero, List.set_cons_succ]) (hCont (v355, gb357) _ ⟨hHeld, (by (with_reducible repeat (first | apply Kd.R_alloc | apply Kd.R_drewN | apply Kd.R_drew)); exact HO334.out), (by (with_reducible repeat (first | apply Kd.R_alloc | apply Kd.R_drewN | apply Kd.R_drew)); exact HO345.out), (by (with_reducible repeat (first | apply Kd.R_alloc | apply Kd.R_drewN | apply Kd.R_drew)); exact Kd.R_mono HO356.out (fun _ hk => ⟨hk.1.2, hk.2⟩)), (by (with_reducible repeat (first | refine blk_drewN ?_ _ | refine blk_drew ?_ | refine blk_alloc ?_ _)); exact BK327.out), (by (with_reducible repeat (first | refine blk_drewN ?_ _ | refine blk_drew ?_ | refine blk_alloc ?_ _)); exact BK335.out), (by (with_reducible repeat (first | refine blk_drewN ?_ _ | refine blk_drew ?_ | refine blk_alloc ?_ _)); exact BK346.out), (by (with_reducible repeat (first | refine blk_drewN ?_ _ | refine blk_drew ?_ | refine blk_alloc ?_ _)); exact BK357.out), GW357.out, GE357.out, NB327_357.out, NB357_327.out, NB335_357.out, NB357_335.out, NB346_357.out, NB357_346.out, (by repeat (first | (with_reducible first | exact HB.out | apply below_alloc | apply pw_below_drewN | apply below_drew1 | refine below_set ?_ GE327.out | refine below_set ?_ GE335.out | refine below_set ?_ GE346.out | refine below_set ?_ GE357.out) | exact HB.out))⟩)
                        rintro ⟨v355, gb357⟩ w49 ⟨hS_, h0_, h1_, h2_, h3_, h4_, h5_, h6_, h7_, h8_, h9_, h10_, h11_, h12_, h13_, h14_, h15_⟩
                        have n0_ : Aside0 (Kd.R (Kd.int .i64) 29 w49 w.heap.size (fun k_ => some k_ ≠ (v344 : Value).ownBlock ∧ some k_ ≠ (v355 : Value).ownBlock) v333 t332) := ⟨h0_⟩
                        have n1_ : Aside0 (Kd.R (Kd.int .i64) 29 w49 w.heap.size (fun k_ => some k_ ≠ (v333 : Value).ownBlock ∧ some k_ ≠ (v355 : Value).ownBlock) v344 t343) := ⟨h1_⟩
                        have n2_ : Aside0 (Kd.R (Kd.int .i64) 29 w49 w.heap.size (fun k_ => some k_ ≠ (v333 : Value).ownBlock ∧ some k_ ≠ (v344 : Value).ownBlock) v355 t354) := ⟨h2_⟩
                        have n3_ : Aside0 (w49.heap[gb327]? = some (.cells #[.int .i64 a0_0, .int .i64 a0_1, .int .i64 a0_2] 23 (0, 0))) := ⟨h3_⟩
                        have n4_ : Aside0 (w49.heap[gb335]? = some (.cells #[.int .i64 t329, .int .i64 t330, .int .i64 t331] 23 (0, 0))) := ⟨h4_⟩
                        have n5_ : Aside0 (w49.heap[gb346]? = some (.cells #[.int .i64 t340, .int .i64 t341, .int .i64 t342] 23 (0, 0))) := ⟨h5_⟩
                        have n6_ : Aside0 (w49.heap[gb357]? = some (.cells #[.int .i64 0, .int .i64 0, .int .i64 0] 23 (0, 0))) := ⟨h6_⟩
                        have n7_ : Aside0 (w.heap.size ≤ gb357) := ⟨h7_⟩
                        have n8_ : Aside0 (w.heap.size ≤ gb357) := ⟨h8_⟩
                        have n9_ : Aside0 (gb327 ≠ gb357) := ⟨h9_⟩
                        have n10_ : Aside0 (gb357 ≠ gb327) := ⟨h10_⟩
                        have n11_ : Aside0 (gb335 ≠ gb357) := ⟨h11_⟩
                        have n12_ : Aside0 (gb357 ≠ gb335) := ⟨h12_⟩
                        have n13_ : Aside0 (gb346 ≠ gb357) := ⟨h13_⟩
                        have n14_ : Aside0 (gb357 ≠ gb346) := ⟨h14_⟩
                        have n15_ : Aside0 (Below w.heap.size w w49) := ⟨h15_⟩
                        clear HO334
                        clear HO345
                        clear BK327
                        clear BK335
                        clear BK346
                        clear HB
                        clear h0_ h1_ h2_ h3_ h4_ h5_ h6_ h7_ h8_ h9_ h10_ h11_ h12_ h13_ h14_ h15_
                        have HO334 := n0_
                        have HO345 := n1_
                        have HO356 := n2_
                        have BK327 := n3_
                        have BK335 := n4_
                        have BK346 := n5_
                        have BK357 := n6_
                        have GW357 := n7_
                        have GE357 := n8_
                        have NB327_357 := n9_
                        have NB357_327 := n10_
                        have NB335_357 := n11_
                        have NB357_335 := n12_
                        have NB346_357 := n13_
                        have NB357_346 := n14_
                        have HB := n15_
                        clear n0_ n1_ n2_ n3_ n4_ n5_ n6_ n7_ n8_ n9_ n10_ n11_ n12_ n13_ n14_ n15_
                        have hHeld : w49.cell? ⟨gb346, 0, none⟩ = some (.int .i64 t340) ∧ w49.cell? ⟨gb346, 1, none⟩ = some (.int .i64 t341) ∧ w49.cell? ⟨gb346, 2, none⟩ = some (.int .i64 t342) := hS_
                        refine norm_ (a' := ?_) ?_ ?_
                        rotate_left
                        · simp only [putAll, Act.put, List.setIfInBounds_toArray, List.set_cons_zero, List.set_cons_succ]
                          rfl
                        refine one_ (i := 9) (N := none) #[true, true, true, true, true, true, true, true, true, true, false] rfl rfl (one_of HT_.out (by kernel_rfl)) (by decide) (fun K hK => ?_)
                        have hs50 : w49.cell? ⟨gb357, 0, none⟩ = some (.int .i64 0) := (blk_cell BK357.out 0).trans rfl
                        have hfs50 := blk_frozen BK357.out 0
                        have hns50_0 := NB327_357.out
                        have hns50_1 := NB335_357.out
                        have hns50_2 := NB346_357.out
                        have hms50_0 := NB357_327.out
                        have hms50_1 := NB357_335.out
                        have hms50_2 := NB357_346.out
                        have hs51 : w49.cell? ⟨gb357, 1, none⟩ = some (.int .i64 0) := (blk_cell BK357.out 1).trans rfl
                        have hfs51 := blk_frozen BK357.out 1
                        have hns51_0 := NB327_357.out
                        have hns51_1 := NB335_357.out
                        have hns51_2 := NB346_357.out
                        have hms51_0 := NB357_327.out
                        have hms51_1 := NB357_335.out
                        have hms51_2 := NB357_346.out
                        have hs52 : w49.cell? ⟨gb357, 2, none⟩ = some (.int .i64 0) := (blk_cell BK357.out 2).trans rfl
                        have hfs52 := blk_frozen BK357.out 2
                        have hns52_0 := NB327_357.out
                        have hns52_1 := NB335_357.out
                        have hns52_2 := NB346_357.out
                        have hms52_0 := NB357_327.out
                        have hms52_1 := NB357_335.out
                        have hms52_2 := NB357_346.out
                        refine skip_ (w1 := ?_) (by rfl) rfl ?_ ?_
                        rotate_left
                        · go_simp
                          rfl
                        refine hK.out _ _ ⟨((cell_far (p := ⟨gb357, _, none⟩) NB346_357.out _).trans (((cell_far (p := ⟨gb357, _, none⟩) NB346_357.out _).trans (((cell_far (p := ⟨gb357, _, none⟩) NB346_357.out _).trans (hHeld.1)))))), ((cell_far (p := ⟨gb357, _, none⟩) NB346_357.out _).trans (((cell_far (p := ⟨gb357, _, none⟩) NB346_357.out _).trans (((cell_far (p := ⟨gb357, _, none⟩) NB346_357.out _).trans (hHeld.2.1)))))), ((cell_far (p := ⟨gb357, _, none⟩) NB346_357.out _).trans (((cell_far (p := ⟨gb357, _, none⟩) NB346_357.out _).trans (((cell_far (p := ⟨gb357, _, none⟩) NB346_357.out _).trans (hHeld.2.2))))))⟩ (fun hHeld => ?_)
                        clear hK K
                        refine pure_ (i := 10) (N := some 16) (v := ?_) (a' := ?_) #[true, true, true, true, true, true, true, true, true, true, true] rfl rfl (any_of HT_.out (by kernel_rfl)) (fun _ _ _ h => h) (Or.inl ⟨by rfl, ?_⟩) ?_ ?_
                        rotate_left
                        · intro w'
                          go_simp
                          with_reducible rfl
                        rotate_left
                        · simp only [Act.put, List.setIfInBounds_toArray, List.set_cons_zero, List.set_cons_succ, i64_w, i32_w]
                          rfl
                        refine done_ (done_of HT_.out (by kernel_rfl)) ?_
                        have hnb53 := NB327_346.out
                        have hnc53 := NB346_327.out
                        have hnb54 := NB327_357.out
                        have hnc54 := NB357_327.out
                        have hcz55_0 : w49.cell? ⟨gb327, 0, none⟩ = some (.int .i64 a0_0) := (blk_cell BK327.out 0).trans rfl
                        have hcz55_1 : w49.cell? ⟨gb327, 1, none⟩ = some (.int .i64 a0_1) := (blk_cell BK327.out 1).trans rfl
                        have hcz55_2 : w49.cell? ⟨gb327, 2, none⟩ = some (.int .i64 a0_2) := (blk_cell BK327.out 2).trans rfl
                        have hfz55_0 := blk_frozen BK327.out 0
                        have hfz55_1 := blk_frozen BK327.out 1
                        have hfz55_2 := blk_frozen BK327.out 2
                        try go_wp2_with (first | ((with_reducible refine gate_dst (N := 57) rfl ?_); (try (refine gate_guard (by rfl) ?_; dsimp only)); refine Kd.R_lit k38 _ 38 ?hg (N := 57) ?hd (xs := ([(⟨a3, 1, 1⟩ : S38)] : List (S38))) (inner := [.int .i64 a3, .int .i64 1, .int .i64 1]) (ok := fun _ => True) (okp := fun _ => True) ?hr ?hp (fun _ hk => hk) trivial (Below.refl _ _) (Nat.le_refl _) (by simp) ?_; (case hd => rfl); (case hg => rfl); (case hr => first | (go_simp; done) | (go_simp; rfl)); (case hp => exact (Reps.c3 (show Kd.M k38 _ _ _ (⟨a3, 1, 1⟩ : S38) [.int .i64 a3, .int .i64 1, .int .i64 1] from (k38_mkM _ _ _ (⟨a3, 1, 1⟩ : S38) )) (Reps.none _ _))); intro v359 w56 ho57 hb hg_ hnew_; clear hg_ hnew_; (first | rw [← Ny358.out] at ho57 | (simp only [Int.reduceToNat] at ho57; rw [← Ny358.out] at ho57)); have n0_ := Aside0.mk (Kd.R_below (by (with_reducible repeat (first | apply Kd.R_alloc | apply Kd.R_drewN | apply Kd.R_drew)); exact (Kd.R_mono (Kd.R_far (p := ⟨gb357, 2, none⟩) (Kd.R_far (p := ⟨gb357, 1, none⟩) (Kd.R_far (p := ⟨gb357, 0, none⟩) (Kd.R_types HO334.out BK357.out (by decide)) (fun _ hk => hk.2) (.int .i64 t351)) (fun _ hk => hk.2) (.int .i64 t352)) (fun _ hk => hk.2) (.int .i64 t353)) (fun _ h_ => h_.1))) hb); have n1_ := Aside0.mk (Kd.R_below (by (with_reducible repeat (first | apply Kd.R_alloc | apply Kd.R_drewN | apply Kd.R_drew)); exact (Kd.R_mono (Kd.R_far (p := ⟨gb357, 2, none⟩) (Kd.R_far (p := ⟨gb357, 1, none⟩) (Kd.R_far (p := ⟨gb357, 0, none⟩) (Kd.R_types HO345.out BK357.out (by decide)) (fun _ hk => hk.2) (.int .i64 t351)) (fun _ hk => hk.2) (.int .i64 t352)) (fun _ hk => hk.2) (.int .i64 t353)) (fun _ h_ => h_.1))) hb); have n2_ := Aside0.mk (Kd.R_below (by (with_reducible repeat (first | apply Kd.R_alloc | apply Kd.R_drewN | apply Kd.R_drew)); exact (Kd.R_mono (Kd.R_far (p := ⟨gb357, 2, none⟩) (Kd.R_far (p := ⟨gb357, 1, none⟩) (Kd.R_far (p := ⟨gb357, 0, none⟩) (Kd.R_types HO356.out BK357.out (by decide)) (fun _ hk => hk.2) (.int .i64 t351)) (fun _ hk => hk.2) (.int .i64 t352)) (fun _ hk => hk.2) (.int .i64 t353)) (fun _ h_ => h_.1))) hb); have n3_ := Aside0.mk (Kd.R_lower ho57 (below_size (by repeat (first | (with_reducible first | exact HB.out | apply below_alloc | apply pw_below_drewN | apply below_drew1 | refine below_set ?_ GE327.out | refine below_set ?_ GE335.out | refine below_set ?_ GE346.out | refine below_set ?_ GE357.out) | exact HB.out)))); have n4_ := Aside0.mk (blk_below (g := gb327) (o := .cells #[.int .i64 a0_0, .int .i64 a0_1, .int .i64 a0_2] 23 (0, 0)) (by (with_reducible repeat (first | refine blk_drewN ?_ _ | refine blk_drew ?_ | refine blk_alloc ?_ _)); refine blk_far ?_ NB327_357.out _; (with_reducible repeat (first | refine blk_drewN ?_ _ | refine blk_drew ?_ | refine blk_alloc ?_ _)); refine blk_far ?_ NB327_357.out _; (with_reducible repeat (first | refine blk_drewN ?_ _ | refine blk_drew ?_ | refine blk_alloc ?_ _)); refine blk_far ?_ NB327_357.out _; (with_reducible repeat (first | refine blk_drewN ?_ _ | refine blk_drew ?_ | refine blk_alloc ?_ _)); exact BK327.out) hb); have n5_ := Aside0.mk (blk_below (g := gb335) (o := .cells #[.int .i64 t329, .int .i64 t330, .int .i64 t331] 23 (0, 0)) (by (with_reducible repeat (first | refine blk_drewN ?_ _ | refine blk_drew ?_ | refine blk_alloc ?_ _)); refine blk_far ?_ NB335_357.out _; (with_reducible repeat (first | refine blk_drewN ?_ _ | refine blk_drew ?_ | refine blk_alloc ?_ _)); refine blk_far ?_ NB335_357.out _; (with_reducible repeat (first | refine blk_drewN ?_ _ | refine blk_drew ?_ | refine blk_alloc ?_ _)); refine blk_far ?_ NB335_357.out _; (with_reducible repeat (first | refine blk_drewN ?_ _ | refine blk_drew ?_ | refine blk_alloc ?_ _)); exact BK335.out) hb); have n6_ := Aside0.mk (blk_below (g := gb346) (o := .cells #[.int .i64 t340, .int .i64 t341, .int .i64 t342] 23 (0, 0)) (by (with_reducible repeat (first | refine blk_drewN ?_ _ | refine blk_drew ?_ | refine blk_alloc ?_ _)); refine blk_far ?_ NB346_357.out _; (with_reducible repeat (first | refine blk_drewN ?_ _ | refine blk_drew ?_ | refine blk_alloc ?_ _)); refine blk_far ?_ NB346_357.out _; (with_reducible repeat (first | refine blk_drewN ?_ _ | refine blk_drew ?_ | refine blk_alloc ?_ _)); refine blk_far ?_ NB346_357.out _; (with_reducible repeat (first | refine blk_drewN ?_ _ | refine blk_drew ?_ | refine blk_alloc ?_ _)); exact BK346.out) hb); have n7_ := Aside0.mk (blk_below (g := gb357) (o := .cells #[.int .i64 t351, .int .i64 t352, .int .i64 t353] 23 (0, 0)) (by (with_reducible repeat (first | refine blk_drewN ?_ _ | refine blk_drew ?_ | refine blk_alloc ?_ _)); refine blk_put (cs := #[.int .i64 t351, .int .i64 t352, .int .i64 0]) ?_ 2 _ rfl; (with_reducible repeat (first | refine blk_drewN ?_ _ | refine blk_drew ?_ | refine blk_alloc ?_ _)); refine blk_put (cs := #[.int .i64 t351, .int .i64 0, .int .i64 0]) ?_ 1 _ rfl; (with_reducible repeat (first | refine blk_drewN ?_ _ | refine blk_drew ?_ | refine blk_alloc ?_ _)); refine blk_put (cs := #[.int .i64 0, .int .i64 0, .int .i64 0]) ?_ 0 _ rfl; (with_reducible repeat (first | refine blk_drewN ?_ _ | refine blk_drew ?_ | refine blk_alloc ?_ _)); exact BK357.out) hb); have n8_ := Aside0.mk (below_step (by repeat (first | (with_reducible first | exact HB.out | apply below_alloc | apply pw_below_drewN | apply below_drew1 | refine below_set ?_ GE327.out | refine below_set ?_ GE335.out | refine below_set ?_ GE346.out | refine below_set ?_ GE357.out) | exact HB.out)) hb); clear HO334; clear HO345; clear HO356; clear BK327; clear BK335; clear BK346; clear BK357; clear HB; have HO334 := n0_; have HO345 := n1_; have HO356 := n2_; have HO360 := n3_; have BK327 := n4_; have BK335 := n5_; have BK346 := n6_; have BK357 := n7_; have HB := n8_; clear n0_ n1_ n2_ n3_ n4_ n5_ n6_ n7_ n8_; clear hb ho57; obtain ⟨Ao58, co58, eo58⟩ := Kd.R_slice HO360.out; subst eo58) | ((with_reducible refine gate_callee (f := 10) rfl ?_); refine goesL_ (some 58) rfl rfl Try.func10 (by kernel_rfl) rfl #[.agg #[.int .i64 a0_0, .int .i64 a0_1, .int .i64 a0_2], .slice Ao58 y358.length co58] rfl (by (try simp only [List.map_toArray, List.map_cons, List.map_nil]); first | done | rfl | (simp only [List.length_drop, List.length_take]; rfl)) ?_; (with_reducible refine (flight_Do.calls k a0_0 a0_1 a0_2 _ _ y358 t361 t362 t363 t364 _ ?side1 ?side2 A19.out).mono ?_); (case side1 => repeat (first | exact (Kd.R_reads' HO360.out).2.2 | (with_reducible refine Kd.C_alloc ?_ _) | (with_reducible refine Kd.C_drewN ?_ _) | (with_reducible refine Kd.C_drew ?_))); (case side2 => exact (Kd.R_reads' HO360.out).2.1); rintro e w59 ⟨v365, rfl, ho0, hb⟩; refine ⟨_, rfl, ?_⟩; have n0_ := Aside0.mk (Kd.R_elder' (by (with_reducible repeat (first | apply Kd.R_alloc | apply Kd.R_drewN | apply Kd.R_drew)); exact HO334.out) (Kd.R_base ho0) hb); have n1_ := Aside0.mk (Kd.R_elder' (by (with_reducible repeat (first | apply Kd.R_alloc | apply Kd.R_drewN | apply Kd.R_drew)); exact HO345.out) (Kd.R_base ho0) hb); have n2_ := Aside0.mk (Kd.R_elder' (by (with_reducible repeat (first | apply Kd.R_alloc | apply Kd.R_drewN | apply Kd.R_drew)); exact HO356.out) (Kd.R_base ho0) hb); have n3_ := Aside0.mk (Kd.R_below (by (with_reducible repeat (first | apply Kd.R_alloc | apply Kd.R_drewN | apply Kd.R_drew)); exact HO360.out) hb); have n4_ := Aside0.mk (Kd.R_lower (Kd.R_new' (Kd.R_new' (Kd.R_new' ho0 (Kd.R_lt (by (with_reducible repeat (first | apply Kd.R_alloc | apply Kd.R_drewN | apply Kd.R_drew)); exact HO334.out))) (Kd.R_lt (by (with_reducible repeat (first | apply Kd.R_alloc | apply Kd.R_drewN | apply Kd.R_drew)); exact HO345.out))) (Kd.R_lt (by (with_reducible repeat (first | apply Kd.R_alloc | apply Kd.R_drewN | apply Kd.R_drew)); exact HO356.out))) (below_size (by repeat (first | (with_reducible first | exact HB.out | apply below_alloc | apply pw_below_drewN | apply below_drew1 | refine below_set ?_ GE327.out | refine below_set ?_ GE335.out | refine below_set ?_ GE346.out | refine below_set ?_ GE357.out) | exact HB.out)))); have n5_ := Aside0.mk (blk_below (g := gb327) (o := .cells #[.int .i64 a0_0, .int .i64 a0_1, .int .i64 a0_2] 23 (0, 0)) (by (with_reducible repeat (first | refine blk_drewN ?_ _ | refine blk_drew ?_ | refine blk_alloc ?_ _)); exact BK327.out) hb); have n6_ := Aside0.mk (blk_below (g := gb335) (o := .cells #[.int .i64 t329, .int .i64 t330, .int .i64 t331] 23 (0, 0)) (by (with_reducible repeat (first | refine blk_drewN ?_ _ | refine blk_drew ?_ | refine blk_alloc ?_ _)); exact BK335.out) hb); have n7_ := Aside0.mk (blk_below (g := gb346) (o := .cells #[.int .i64 t340, .int .i64 t341, .int .i64 t342] 23 (0, 0)) (by (with_reducible repeat (first | refine blk_drewN ?_ _ | refine blk_drew ?_ | refine blk_alloc ?_ _)); exact BK346.out) hb); have n8_ := Aside0.mk (blk_below (g := gb357) (o := .cells #[.int .i64 t351, .int .i64 t352, .int .i64 t353] 23 (0, 0)) (by (with_reducible repeat (first | refine blk_drewN ?_ _ | refine blk_drew ?_ | refine blk_alloc ?_ _)); exact BK357.out) hb); have n9_ := Aside0.mk (below_step (by repeat (first | (with_reducible first | exact HB.out | apply below_alloc | apply pw_below_drewN | apply below_drew1 | refine below_set ?_ GE327.out | refine below_set ?_ GE335.out | refine below_set ?_ GE346.out | refine below_set ?_ GE357.out) | exact HB.out)) hb); clear HO334; clear HO345; clear HO356; clear HO360; clear BK327; clear BK335; clear BK346; clear BK357; clear HB; have HO334 := n0_; have HO345 := n1_; have HO356 := n2_; have HO360 := n3_; have HO366 := n4_; have BK327 := n5_; have BK335 := n6_; have BK346 := n7_; have BK357 := n8_; have HB := n9_; clear n0_ n1_ n2_ n3_ n4_ n5_ n6_ n7_ n8_ n9_; (try clear hb); (try clear hb2); (try clear hk); (try clear hi); (try clear ho0)) | ((with_reducible refine gate_dst (N := 17) rfl ?_); (try (refine gate_guard (by rfl) ?_; dsimp only)); refine box_event ?hg (N := 17) ?hd (cs := #[.int .i64 0, .int .i64 0, .int .i64 0]) (t := 23) ?hr ?_; (case hd => rfl); (case hg => rfl); (case hr => first | (go_simp; done) | (go_simp; rfl)); intro gb367 hg w60 hbox hb; have n0_ := Aside0.mk (Kd.R_below (by (with_reducible repeat (first | apply Kd.R_alloc | apply Kd.R_drewN | apply Kd.R_drew)); exact HO334.out) hb); have n1_ := Aside0.mk (Kd.R_below (by (with_reducible repeat (first | apply Kd.R_alloc | apply Kd.R_drewN | apply Kd.R_drew)); exact HO345.out) hb); have n2_ := Aside0.mk (Kd.R_below (by (with_reducible repeat (first | apply Kd.R_alloc | apply Kd.R_drewN | apply Kd.R_drew)); exact HO356.out) hb); have n3_ := Aside0.mk (Kd.R_below (by (with_reducible repeat (first | apply Kd.R_alloc | apply Kd.R_drewN | apply Kd.R_drew)); exact HO360.out) hb); have n4_ := Aside0.mk (Kd.R_below (by (with_reducible repeat (first | apply Kd.R_alloc | apply Kd.R_drewN | apply Kd.R_drew)); exact HO366.out) hb); have n5_ := Aside0.mk (blk_below (g := gb327) (o := .cells #[.int .i64 a0_0, .int .i64 a0_1, .int .i64 a0_2] 23 (0, 0)) (by (with_reducible repeat (first | refine blk_drewN ?_ _ | refine blk_drew ?_ | refine blk_alloc ?_ _)); exact BK327.out) hb); have n6_ := Aside0.mk (blk_below (g := gb335) (o := .cells #[.int .i64 t329, .int .i64 t330, .int .i64 t331] 23 (0, 0)) (by (with_reducible repeat (first | refine blk_drewN ?_ _ | refine blk_drew ?_ | refine blk_alloc ?_ _)); exact BK335.out) hb); have n7_ := Aside0.mk (blk_below (g := gb346) (o := .cells #[.int .i64 t340, .int .i64 t341, .int .i64 t342] 23 (0, 0)) (by (with_reducible repeat (first | refine blk_drewN ?_ _ | refine blk_drew ?_ | refine blk_alloc ?_ _)); exact BK346.out) hb); have n8_ := Aside0.mk (blk_below (g := gb357) (o := .cells #[.int .i64 t351, .int .i64 t352, .int .i64 t353] 23 (0, 0)) (by (with_reducible repeat (first | refine blk_drewN ?_ _ | refine blk_drew ?_ | refine blk_alloc ?_ _)); exact BK357.out) hb); have n9_ := Aside0.mk (below_step (by repeat (first | (with_reducible first | exact HB.out | apply below_alloc | apply pw_below_drewN | apply below_drew1 | refine below_set ?_ GE327.out | refine below_set ?_ GE335.out | refine below_set ?_ GE346.out | refine below_set ?_ GE357.out) | exact HB.out)) hb); have n10_ := Aside0.mk (hbox); have n11_ := Aside0.mk ((by rw [hg]; exact (below_size (by repeat (first | (with_reducible first | exact HB.out | apply below_alloc | apply pw_below_drewN | apply below_drew1 | refine below_set ?_ GE327.out | refine below_set ?_ GE335.out | refine below_set ?_ GE346.out | refine below_set ?_ GE357.out) | exact HB.out))) : w.heap.size ≤ gb367)); have n12_ := Aside0.mk ((by rw [hg]; exact (below_size (by repeat (first | (with_reducible first | exact HB.out | apply below_alloc | apply pw_below_drewN | apply below_drew1 | refine below_set ?_ GE327.out | refine below_set ?_ GE335.out | refine below_set ?_ GE346.out | refine below_set ?_ GE357.out) | exact HB.out))) : w.heap.size ≤ gb367)); have n13_ := Aside0.mk ((by rw [hg]; exact Nat.ne_of_lt (blk_lt (g := gb327) (o := .cells #[.int .i64 a0_0, .int .i64 a0_1, .int .i64 a0_2] 23 (0, 0)) (by (with_reducible repeat (first | refine blk_drewN ?_ _ | refine blk_drew ?_ | refine blk_alloc ?_ _)); exact BK327.out)) : gb327 ≠ gb367)); have n14_ := Aside0.mk ((by rw [hg]; exact Nat.ne_of_gt (blk_lt (g := gb327) (o := .cells #[.int .i64 a0_0, .int .i64 a0_1, .int .i64 a0_2] 23 (0, 0)) (by (with_reducible repeat (first | refine blk_drewN ?_ _ | refine blk_drew ?_ | refine blk_alloc ?_ _)); exact BK327.out)) : gb367 ≠ gb327)); have n15_ := Aside0.mk ((by rw [hg]; exact Nat.ne_of_lt (blk_lt (g := gb335) (o := .cells #[.int .i64 t329, .int .i64 t330, .int .i64 t331] 23 (0, 0)) (by (with_reducible repeat (first | refine blk_drewN ?_ _ | refine blk_drew ?_ | refine blk_alloc ?_ _)); exact BK335.out)) : gb335 ≠ gb367)); have n16_ := Aside0.mk ((by rw [hg]; exact Nat.ne_of_gt (blk_lt (g := gb335) (o := .cells #[.int .i64 t329, .int .i64 t330, .int .i64 t331] 23 (0, 0)) (by (with_reducible repeat (first | refine blk_drewN ?_ _ | refine blk_drew ?_ | refine blk_alloc ?_ _)); exact BK335.out)) : gb367 ≠ gb335)); have n17_ := Aside0.mk ((by rw [hg]; exact Nat.ne_of_lt (blk_lt (g := gb346) (o := .cells #[.int .i64 t340, .int .i64 t341, .int .i64 t342] 23 (0, 0)) (by (with_reducible repeat (first | refine blk_drewN ?_ _ | refine blk_drew ?_ | refine blk_alloc ?_ _)); exact BK346.out)) : gb346 ≠ gb367)); have n18_ := Aside0.mk ((by rw [hg]; exact Nat.ne_of_gt (blk_lt (g := gb346) (o := .cells #[.int .i64 t340, .int .i64 t341, .int .i64 t342] 23 (0, 0)) (by (with_reducible repeat (first | refine blk_drewN ?_ _ | refine blk_drew ?_ | refine blk_alloc ?_ _)); exact BK346.out)) : gb367 ≠ gb346)); have n19_ := Aside0.mk ((by rw [hg]; exact Nat.ne_of_lt (blk_lt (g := gb357) (o := .cells #[.int .i64 t351, .int .i64 t352, .int .i64 t353] 23 (0, 0)) (by (with_reducible repeat (first | refine blk_drewN ?_ _ | refine blk_drew ?_ | refine blk_alloc ?_ _)); exact BK357.out)) : gb357 ≠ gb367)); have n20_ := Aside0.mk ((by rw [hg]; exact Nat.ne_of_gt (blk_lt (g := gb357) (o := .cells #[.int .i64 t351, .int .i64 t352, .int .i64 t353] 23 (0, 0)) (by (with_reducible repeat (first | refine blk_drewN ?_ _ | refine blk_drew ?_ | refine blk_alloc ?_ _)); exact BK357.out)) : gb367 ≠ gb357)); clear HO334; clear HO345; clear HO356; clear HO360; clear HO366; clear BK327; clear BK335; clear BK346; clear BK357; clear HB; have HO334 := n0_; have HO345 := n1_; have HO356 := n2_; have HO360 := n3_; have HO366 := n4_; have BK327 := n5_; have BK335 := n6_; have BK346 := n7_; have BK357 := n8_; have HB := n9_; have BK367 := n10_; have GW367 := n11_; have GE367 := n12_; have NB327_367 := n13_; have NB367_327 := n14_; have NB335_367 := n15_; have NB367_335 := n16_; have NB346_367 := n17_; have NB367_346 := n18_; have NB357_367 := n19_; have NB367_357 := n20_; clear n0_ n1_ n2_ n3_ n4_ n5_ n6_ n7_ n8_ n9_ n10_ n11_ n12_ n13_ n14_ n15_ n16_ n17_ n18_ n19_ n20_; clear hb hbox hg; have hnb61 := NB367_327.out; have hnc61 := NB327_367.out; have hnb62 := NB367_335.out; have hnc62 := NB335_367.out; have hnb63 := NB367_346.out; have hnc63 := NB346_367.out; have hnb64 := NB367_357.out; have hnc64 := NB357_367.out; have hcz65_0 : w60.cell? ⟨gb367, 0, none⟩ = some (.int .i64 0) := (blk_cell BK367.out 0).trans rfl; have hcz65_1 : w60.cell? ⟨gb367, 1, none⟩ = some (.int .i64 0) := (blk_cell BK367.out 1).trans rfl; have hcz65_2 : w60.cell? ⟨gb367, 2, none⟩ = some (.int .i64 0) := (blk_cell BK367.out 2).trans rfl; have hfz65_0 := blk_frozen BK367.out 0; have hfz65_1 := blk_frozen BK367.out 1; have hfz65_2 := blk_frozen BK367.out 2; have hnb66 := NB335_346.out; have hnc66 := NB346_335.out; have hnb67 := NB335_357.out; have hnc67 := NB357_335.out; have hcz68_0 : w60.cell? ⟨gb335, 0, none⟩ = some (.int .i64 t329) := (blk_cell BK335.out 0).trans rfl; have hcz68_1 : w60.cell? ⟨gb335, 1, none⟩ = some (.int .i64 t330) := (blk_cell BK335.out 1).trans rfl; have hcz68_2 : w60.cell? ⟨gb335, 2, none⟩ = some (.int .i64 t331) := (blk_cell BK335.out 2).trans rfl; have hfz68_0 := blk_frozen BK335.out 0; have hfz68_1 := blk_frozen BK335.out 1; have hfz68_2 := blk_frozen BK335.out 2; have hnb69 := NB357_346.out; have hnc69 := NB346_357.out; have hcz70_0 : w60.cell? ⟨gb357, 0, none⟩ = some (.int .i64 t351) := (blk_cell BK357.out 0).trans rfl; have hcz70_1 : w60.cell? ⟨gb357, 1, none⟩ = some (.int .i64 t352) := (blk_cell BK357.out 1).trans rfl; have hcz70_2 : w60.cell? ⟨gb357, 2, none⟩ = some (.int .i64 t353) := (blk_cell BK357.out 2).trans rfl; have hfz70_0 := blk_frozen BK357.out 0; have hfz70_1 := blk_frozen BK357.out 1; have hfz70_2 := blk_frozen BK357.out 2) | ((with_reducible refine gate_dst (N := 85) rfl ?_); (try (refine gate_guard (by rfl) ?_; dsimp only)); refine Kd.R_lit (Kd.int .i64) _ 29 ?hg (N := 85) ?hd (xs := ([] : List Int)) (inner := []) (ok := fun _ => True) (okp := fun _ => True) ?hr ?hp (fun _ hk => hk) trivial (Below.refl _ _) (Nat.le_refl _) (by simp) ?_; (case hd => rfl); (case hg => rfl); (case hr => first | (go_simp; done) | (go_simp; rfl)); (case hp => exact (Reps.none _ _)); intro v369 w71 ho72 hb hg_ hnew_; clear hg_ hnew_; (first | rw [← Ny368.out] at ho72 | (simp only [Int.reduceToNat] at ho72; rw [← Ny368.out] at ho72)); have n0_ := Aside0.mk (Kd.R_elder' (by (with_reducible repeat (first | apply Kd.R_alloc | apply Kd.R_drewN | apply Kd.R_drew)); exact (Kd.R_mono (Kd.R_far (p := ⟨gb367, 2, none⟩) (Kd.R_far (p := ⟨gb367, 1, none⟩) (Kd.R_far (p := ⟨gb367, 0, none⟩) (Kd.R_types HO334.out BK367.out (by decide)) (fun _ hk => hk.2) (.int .i64 t361)) (fun _ hk => hk.2) (.int .i64 t362)) (fun _ hk => hk.2) (.int .i64 t363)) (fun _ h_ => h_.1))) (Kd.R_base ho72) hb); have n1_ := Aside0.mk (Kd.R_elder' (by (with_reducible repeat (first | apply Kd.R_alloc | apply Kd.R_drewN | apply Kd.R_drew)); exact (Kd.R_mono (Kd.R_far (p := ⟨gb367, 2, none⟩) (Kd.R_far (p := ⟨gb367, 1, none⟩) (Kd.R_far (p := ⟨gb367, 0, none⟩) (Kd.R_types HO345.out BK367.out (by decide)) (fun _ hk => hk.2) (.int .i64 t361)) (fun _ hk => hk.2) (.int .i64 t362)) (fun _ hk => hk.2) (.int .i64 t363)) (fun _ h_ => h_.1))) (Kd.R_base ho72) hb); have n2_ := Aside0.mk (Kd.R_elder' (by (with_reducible repeat (first | apply Kd.R_alloc | apply Kd.R_drewN | apply Kd.R_drew)); exact (Kd.R_mono (Kd.R_far (p := ⟨gb367, 2, none⟩) (Kd.R_far (p := ⟨gb367, 1, none⟩) (Kd.R_far (p := ⟨gb367, 0, none⟩) (Kd.R_types HO356.out BK367.out (by decide)) (fun _ hk => hk.2) (.int .i64 t361)) (fun _ hk => hk.2) (.int .i64 t362)) (fun _ hk => hk.2) (.int .i64 t363)) (fun _ h_ => h_.1))) (Kd.R_base ho72) hb); have n3_ := Aside0.mk (Kd.R_below (by (with_reducible repeat (first | apply Kd.R_alloc | apply Kd.R_drewN | apply Kd.R_drew)); exact (Kd.R_mono (Kd.R_far (p := ⟨gb367, 2, none⟩) (Kd.R_far (p := ⟨gb367, 1, none⟩) (Kd.R_far (p := ⟨gb367, 0, none⟩) (Kd.R_types HO360.out BK367.out (by decide)) (fun _ hk => hk.2) (.int .i64 t361)) (fun _ hk => hk.2) (.int .i64 t362)) (fun _ hk => hk.2) (.int .i64 t363)) (fun _ h_ => h_.1))) hb); have n4_ := Aside0.mk (Kd.R_elder' (by (with_reducible repeat (first | apply Kd.R_alloc | apply Kd.R_drewN | apply Kd.R_drew)); exact (Kd.R_mono (Kd.R_far (p := ⟨gb367, 2, none⟩) (Kd.R_far (p := ⟨gb367, 1, none⟩) (Kd.R_far (p := ⟨gb367, 0, none⟩) (Kd.R_types HO366.out BK367.out (by decide)) (fun _ hk => hk.2) (.int .i64 t361)) (fun _ hk => hk.2) (.int .i64 t362)) (fun _ hk => hk.2) (.int .i64 t363)) (fun _ h_ => h_.1))) (Kd.R_base ho72) hb); have n5_ := Aside0.mk (Kd.R_lower (Kd.R_new' (Kd.R_new' (Kd.R_new' (Kd.R_new' ho72 (Kd.R_lt (by (with_reducible repeat (first | apply Kd.R_alloc | apply Kd.R_drewN | apply Kd.R_drew)); exact (Kd.R_mono (Kd.R_far (p := ⟨gb367, 2, none⟩) (Kd.R_far (p := ⟨gb367, 1, none⟩) (Kd.R_far (p := ⟨gb367, 0, none⟩) (Kd.R_types HO334.out BK367.out (by decide)) (fun _ hk => hk.2) (.int .i64 t361)) (fun _ hk => hk.2) (.int .i64 t362)) (fun _ hk => hk.2) (.int .i64 t363)) (fun _ h_ => h_.1))))) (Kd.R_lt (by (with_reducible repeat (first | apply Kd.R_alloc | apply Kd.R_drewN | apply Kd.R_drew)); exact (Kd.R_mono (Kd.R_far (p := ⟨gb367, 2, none⟩) (Kd.R_far (p := ⟨gb367, 1, none⟩) (Kd.R_far (p := ⟨gb367, 0, none⟩) (Kd.R_types HO345.out BK367.out (by decide)) (fun _ hk => hk.2) (.int .i64 t361)) (fun _ hk => hk.2) (.int .i64 t362)) (fun _ hk => hk.2) (.int .i64 t363)) (fun _ h_ => h_.1))))) (Kd.R_lt (by (with_reducible repeat (first | apply Kd.R_alloc | apply Kd.R_drewN | apply Kd.R_drew)); exact (Kd.R_mono (Kd.R_far (p := ⟨gb367, 2, none⟩) (Kd.R_far (p := ⟨gb367, 1, none⟩) (Kd.R_far (p := ⟨gb367, 0, none⟩) (Kd.R_types HO356.out BK367.out (by decide)) (fun _ hk => hk.2) (.int .i64 t361)) (fun _ hk => hk.2) (.int .i64 t362)) (fun _ hk => hk.2) (.int .i64 t363)) (fun _ h_ => h_.1))))) (Kd.R_lt (by (with_reducible repeat (first | apply Kd.R_alloc | apply Kd.R_drewN | apply Kd.R_drew)); exact (Kd.R_mono (Kd.R_far (p := ⟨gb367, 2, none⟩) (Kd.R_far (p := ⟨gb367, 1, none⟩) (Kd.R_far (p := ⟨gb367, 0, none⟩) (Kd.R_types HO366.out BK367.out (by decide)) (fun _ hk => hk.2) (.int .i64 t361)) (fun _ hk => hk.2) (.int .i64 t362)) (fun _ hk => hk.2) (.int .i64 t363)) (fun _ h_ => h_.1))))) (below_size (by repeat (first | (with_reducible first | exact HB.out | apply below_alloc | apply pw_below_drewN | apply below_drew1 | refine below_set ?_ GE327.out | refine below_set ?_ GE335.out | refine below_set ?_ GE346.out | refine below_set ?_ GE357.out | refine below_set ?_ GE367.out) | exact HB.out)))); have n6_ := Aside0.mk (blk_below (g := gb327) (o := .cells #[.int .i64 a0_0, .int .i64 a0_1, .int .i64 a0_2] 23 (0, 0)) (by (with_reducible repeat (first | refine blk_drewN ?_ _ | refine blk_drew ?_ | refine blk_alloc ?_ _)); refine blk_far ?_ NB327_367.out _; (with_reducible repeat (first | refine blk_drewN ?_ _ | refine blk_drew ?_ | refine blk_alloc ?_ _)); refine blk_far ?_ NB327_367.out _; (with_reducible repeat (first | refine blk_drewN ?_ _ | refine blk_drew ?_ | refine blk_alloc ?_ _)); refine blk_far ?_ NB327_367.out _; (with_reducible repeat (first | refine blk_drewN ?_ _ | refine blk_drew ?_ | refine blk_alloc ?_ _)); exact BK327.out) hb); have n7_ := Aside0.mk (blk_below (g := gb335) (o := .cells #[.int .i64 t329, .int .i64 t330, .int .i64 t331] 23 (0, 0)) (by (with_reducible repeat (first | refine blk_drewN ?_ _ | refine blk_drew ?_ | refine blk_alloc ?_ _)); refine blk_far ?_ NB335_367.out _; (with_reducible repeat (first | refine blk_drewN ?_ _ | refine blk_drew ?_ | refine blk_alloc ?_ _)); refine blk_far ?_ NB335_367.out _; (with_reducible repeat (first | refine blk_drewN ?_ _ | refine blk_drew ?_ | refine blk_alloc ?_ _)); refine blk_far ?_ NB335_367.out _; (with_reducible repeat (first | refine blk_drewN ?_ _ | refine blk_drew ?_ | refine blk_alloc ?_ _)); exact BK335.out) hb); have n8_ := Aside0.mk (blk_below (g := gb346) (o := .cells #[.int .i64 t340, .int .i64 t341, .int .i64 t342] 23 (0, 0)) (by (with_reducible repeat (first | refine blk_drewN ?_ _ | refine blk_drew ?_ | refine blk_alloc ?_ _)); refine blk_far ?_ NB346_367.out _; (with_reducible repeat (first | refine blk_drewN ?_ _ | refine blk_drew ?_ | refine blk_alloc ?_ _)); refine blk_far ?_ NB346_367.out _; (with_reducible repeat (first | refine blk_drewN ?_ _ | refine blk_drew ?_ | refine blk_alloc ?_ _)); refine blk_far ?_ NB346_367.out _; (with_reducible repeat (first | refine blk_drewN ?_ _ | refine blk_drew ?_ | refine blk_alloc ?_ _)); exact BK346.out) hb); have n9_ := Aside0.mk (blk_below (g := gb357) (o := .cells #[.int .i64 t351, .int .i64 t352, .int .i64 t353] 23 (0, 0)) (by (with_reducible repeat (first | refine blk_drewN ?_ _ | refine blk_drew ?_ | refine blk_alloc ?_ _)); refine blk_far ?_ NB357_367.out _; (with_reducible repeat (first | refine blk_drewN ?_ _ | refine blk_drew ?_ | refine blk_alloc ?_ _)); refine blk_far ?_ NB357_367.out _; (with_reducible repeat (first | refine blk_drewN ?_ _ | refine blk_drew ?_ | refine blk_alloc ?_ _)); refine blk_far ?_ NB357_367.out _; (with_reducible repeat (first | refine blk_drewN ?_ _ | refine blk_drew ?_ | refine blk_alloc ?_ _)); exact BK357.out) hb); have n10_ := Aside0.mk (blk_below (g := gb367) (o := .cells #[.int .i64 t361, .int .i64 t362, .int .i64 t363] 23 (0, 0)) (by (with_reducible repeat (first | refine blk_drewN ?_ _ | refine blk_drew ?_ | refine blk_alloc ?_ _)); refine blk_put (cs := #[.int .i64 t361, .int .i64 t362, .int .i64 0]) ?_ 2 _ rfl; (with_reducible repeat (first | refine blk_drewN ?_ _ | refine blk_drew ?_ | refine blk_alloc ?_ _)); refine blk_put (cs := #[.int .i64 t361, .int .i64 0, .int .i64 0]) ?_ 1 _ rfl; (with_reducible repeat (first | refine blk_drewN ?_ _ | refine blk_drew ?_ | refine blk_alloc ?_ _)); refine blk_put (cs := #[.int .i64 0, .int .i64 0, .int .i64 0]) ?_ 0 _ rfl; (with_reducible repeat (first | refine blk_drewN ?_ _ | refine blk_drew ?_ | refine blk_alloc ?_ _)); exact BK367.out) hb); have n11_ := Aside0.mk (below_step (by repeat (first | (with_reducible first | exact HB.out | apply below_alloc | apply pw_below_drewN | apply below_drew1 | refine below_set ?_ GE327.out | refine below_set ?_ GE335.out | refine below_set ?_ GE346.out | refine below_set ?_ GE357.out | refine below_set ?_ GE367.out) | exact HB.out)) hb); clear HO334; clear HO345; clear HO356; clear HO360; clear HO366; clear BK327; clear BK335; clear BK346; clear BK357; clear BK367; clear HB; have HO334 := n0_; have HO345 := n1_; have HO356 := n2_; have HO360 := n3_; have HO366 := n4_; have HO370 := n5_; have BK327 := n6_; have BK335 := n7_; have BK346 := n8_; have BK357 := n9_; have BK367 := n10_; have HB := n11_; clear n0_ n1_ n2_ n3_ n4_ n5_ n6_ n7_ n8_ n9_ n10_ n11_; clear hb ho72; obtain ⟨Ao74, co74, eo74⟩ := Kd.R_slice HO345.out; subst eo74) | ((with_reducible refine gate_builtin (b := .append) (xs := #[.tmp 85, .tmp 86]) rfl ?_); (try (refine gate_guard (by rfl) ?_; dsimp only)); at_builtin; refine Kd.R_append_rows (Kd.int .i64) (w0 := w) w.heap.size rfl (.tmp 85) (.tmp 86) 26 29 (.int .i64 0) 8 rfl Try.underlying26 info29 rfl (by decide) (by omega) v369 y368 t343 _ _ _ (fun k_ => some k_ ≠ (v333 : Value).ownBlock ∧ some k_ ≠ (.slice Ao74 t343.length co74 : Value).ownBlock ∧ some k_ ≠ (v355 : Value).ownBlock ∧ some k_ ≠ (v365 : Value).ownBlock) (fun _ => False) rfl rfl ?aO ?aR (fun _ _ h => h) (fun _ h => h.elim) ?aF ?aB ?aS ?aL ?_; (case aR => repeat (first | exact (Kd.R_reads' HO345.out).2.2 | (with_reducible refine Kd.C_alloc ?_ _) | (with_reducible refine Kd.C_drewN ?_ _) | (with_reducible refine Kd.C_drew ?_))); (case aB => exact (by repeat (first | (with_reducible first | exact HB.out | apply below_alloc | apply pw_below_drewN | apply below_drew1 | refine below_set ?_ GE327.out | refine below_set ?_ GE335.out | refine below_set ?_ GE346.out | refine below_set ?_ GE357.out | refine below_set ?_ GE367.out) | exact HB.out))); (case aF => exact (fun k_ hk => ⟨Kd.fresh' (Kd.R_lt (by (with_reducible repeat (first | apply Kd.R_alloc | apply Kd.R_drewN | apply Kd.R_drew)); exact HO334.out)) k_ hk, Kd.fresh' (Kd.R_lt (by (with_reducible repeat (first | apply Kd.R_alloc | apply Kd.R_drewN | apply Kd.R_drew)); exact HO345.out)) k_ hk, Kd.fresh' (Kd.R_lt (by (with_reducible repeat (first | apply Kd.R_alloc | apply Kd.R_drewN | apply Kd.R_drew)); exact HO356.out)) k_ hk, Kd.fresh' (Kd.R_lt (by (with_reducible repeat (first | apply Kd.R_alloc | apply Kd.R_drewN | apply Kd.R_drew)); exact HO366.out)) k_ hk⟩)); (case aO => exact (by (with_reducible repeat (first | apply Kd.R_alloc | apply Kd.R_drewN | apply Kd.R_drew)); exact Kd.R_mono HO370.out (fun _ hk => ⟨hk.1.1.1.2, ⟨hk.1.1.2, ⟨hk.1.2, hk.2⟩⟩⟩))); (case aS => exact (below_size (by repeat (first | (with_reducible first | exact HB.out | apply below_alloc | apply pw_below_drewN | apply below_drew1 | refine below_set ?_ GE327.out | refine below_set ?_ GE335.out | refine below_set ?_ GE346.out | refine below_set ?_ GE357.out | refine below_set ?_ GE367.out) | exact HB.out)))); (case aL => have := LMc24.out; omega); intro v372 w73 ho hb hg hat; rw [← Ny371.out] at ho; have n0_ := Aside0.mk (blk_grown (g := gb327) (o := .cells #[.int .i64 a0_0, .int .i64 a0_1, .int .i64 a0_2] 23 (0, 0)) (by (with_reducible repeat (first | refine blk_drewN ?_ _ | refine blk_drew ?_ | refine blk_alloc ?_ _)); exact BK327.out) hg (Kd.R_ne HO370.out BK327.out (by decide))); have n1_ := Aside0.mk (Kd.R_after (ok := (fun k_ => some k_ ≠ (.slice Ao74 t343.length co74 : Value).ownBlock ∧ some k_ ≠ (v355 : Value).ownBlock ∧ some k_ ≠ (v365 : Value).ownBlock)) (by (with_reducible repeat (first | apply Kd.R_alloc | apply Kd.R_drewN | apply Kd.R_drew)); exact Kd.R_mono HO334.out (fun _ hk => ⟨⟨hk.1.1.1, ⟨hk.1.1.2, hk.1.2⟩⟩, hk.2⟩)) hg hat); have n2_ := Aside0.mk (blk_grown (g := gb335) (o := .cells #[.int .i64 t329, .int .i64 t330, .int .i64 t331] 23 (0, 0)) (by (with_reducible repeat (first | refine blk_drewN ?_ _ | refine blk_drew ?_ | refine blk_alloc ?_ _)); exact BK335.out) hg (Kd.R_ne HO370.out BK335.out (by decide))); have n3_ := Aside0.mk (Kd.R_after (ok := (fun k_ => some k_ ≠ (v333 : Value).ownBlock ∧ some k_ ≠ (v355 : Value).ownBlock ∧ some k_ ≠ (v365 : Value).ownBlock)) (by (with_reducible repeat (first | apply Kd.R_alloc | apply Kd.R_drewN | apply Kd.R_drew)); exact Kd.R_mono HO345.out (fun _ hk => ⟨⟨hk.1.1.1, ⟨hk.1.1.2, hk.1.2⟩⟩, hk.2⟩)) hg hat); have n4_ := Aside0.mk (blk_grown (g := gb346) (o := .cells #[.int .i64 t340, .int .i64 t341, .int .i64 t342] 23 (0, 0)) (by (with_reducible repeat (first | refine blk_drewN ?_ _ | refine blk_drew ?_ | refine blk_alloc ?_ _)); exact BK346.out) hg (Kd.R_ne HO370.out BK346.out (by decide))); have n5_ := Aside0.mk (Kd.R_after (ok := (fun k_ => some k_ ≠ (v333 : Value).ownBlock ∧ some k_ ≠ (.slice Ao74 t343.length co74 : Value).ownBlock ∧ some k_ ≠ (v365 : Value).ownBlock)) (by (with_reducible repeat (first | apply Kd.R_alloc | apply Kd.R_drewN | apply Kd.R_drew)); exact Kd.R_mono HO356.out (fun _ hk => ⟨⟨hk.1.1.1, ⟨hk.1.1.2, hk.1.2⟩⟩, hk.2⟩)) hg hat); have n6_ := Aside0.mk (blk_grown (g := gb357) (o := .cells #[.int .i64 t351, .int .i64 t352, .int .i64 t353] 23 (0, 0)) (by (with_reducible repeat (first | refine blk_drewN ?_ _ | refine blk_drew ?_ | refine blk_alloc ?_ _)); exact BK357.out) hg (Kd.R_ne HO370.out BK357.out (by decide))); have n7_ := Aside0.mk (Kd.R_over' (by (with_reducible repeat (first | apply Kd.R_alloc | apply Kd.R_drewN | apply Kd.R_drew)); exact HO360.out) (Kd.R_typed (by (with_reducible repeat (first | apply Kd.R_alloc | apply Kd.R_drewN | apply Kd.R_drew)); exact HO370.out)) (by decide) hg); have n8_ := Aside0.mk (Kd.R_after (ok := (fun k_ => some k_ ≠ (v333 : Value).ownBlock ∧ some k_ ≠ (.slice Ao74 t343.length co74 : Value).ownBlock ∧ some k_ ≠ (v355 : Value).ownBlock)) (by (with_reducible repeat (first | apply Kd.R_alloc | apply Kd.R_drewN | apply Kd.R_drew)); exact Kd.R_mono HO366.out (fun _ hk => ⟨⟨hk.1.1.1.2, ⟨hk.1.1.2, hk.1.2⟩⟩, hk.2⟩)) hg hat); have n9_ := Aside0.mk (blk_grown (g := gb367) (o := .cells #[.int .i64 t361, .int .i64 t362, .int .i64 t363] 23 (0, 0)) (by (with_reducible repeat (first | refine blk_drewN ?_ _ | refine blk_drew ?_ | refine blk_alloc ?_ _)); exact BK367.out) hg (Kd.R_ne HO370.out BK367.out (by decide))); have n10_ := Aside0.mk (hb); have n11_ := Aside0.mk (ho); clear BK327; clear HO334; clear BK335; clear HO345; clear BK346; clear HO356; clear BK357; clear HO360; clear HO366; clear BK367; clear HB; clear HO370; have BK327 := n0_; have HO334 := n1_; have BK335 := n2_; have HO345 := n3_; have BK346 := n4_; have HO356 := n5_; have BK357 := n6_; have HO360 := n7_; have HO366 := n8_; have BK367 := n9_; have HB := n10_; have HO373 := n11_; clear n0_ n1_ n2_ n3_ n4_ n5_ n6_ n7_ n8_ n9_ n10_ n11_; clear ho hb hg hat; obtain ⟨Ao76, co76, eo76⟩ := Kd.R_slice HO356.out; subst eo76) | ((with_reducible refine gate_builtin (b := .append) (xs := #[.tmp 87, .tmp 88]) rfl ?_); (try (refine gate_guard (by rfl) ?_; dsimp only)); at_builtin; refine Kd.R_append_rows (Kd.int .i64) (w0 := w) w.heap.size rfl (.tmp 87) (.tmp 88) 26 29 (.int .i64 0) 8 rfl Try.underlying26 info29 rfl (by decide) (by omega) v372 y371 t354 _ _ _ (fun k_ => some k_ ≠ (v333 : Value).ownBlock ∧ some k_ ≠ (.slice Ao74 t343.length co74 : Value).ownBlock ∧ some k_ ≠ (.slice Ao76 t354.length co76 : Value).ownBlock ∧ some k_ ≠ (v365 : Value).ownBlock) (fun _ => False) rfl rfl ?aO ?aR (fun _ _ h => h) (fun _ h => h.elim) ?aF ?aB ?aS ?aL ?_; (case aR => repeat (first | exact (Kd.R_reads' HO356.out).2.2 | (with_reducible refine Kd.C_alloc ?_ _) | (with_reducible refine Kd.C_drewN ?_ _) | (with_reducible refine Kd.C_drew ?_))); (case aB => exact (by repeat (first | (with_reducible first | exact HB.out | apply below_alloc | apply pw_below_drewN | apply below_drew1 | refine below_set ?_ GE327.out | refine below_set ?_ GE335.out | refine below_set ?_ GE346.out | refine below_set ?_ GE357.out | refine below_set ?_ GE367.out) | exact HB.out))); (case aF => exact (fun k_ hk => ⟨Kd.fresh' (Kd.R_lt (by (with_reducible repeat (first | apply Kd.R_alloc | apply Kd.R_drewN | apply Kd.R_drew)); exact HO334.out)) k_ hk, Kd.fresh' (Kd.R_lt (by (with_reducible repeat (first | apply Kd.R_alloc | apply Kd.R_drewN | apply Kd.R_drew)); exact HO345.out)) k_ hk, Kd.fresh' (Kd.R_lt (by (with_reducible repeat (first | apply Kd.R_alloc | apply Kd.R_drewN | apply Kd.R_drew)); exact HO356.out)) k_ hk, Kd.fresh' (Kd.R_lt (by (with_reducible repeat (first | apply Kd.R_alloc | apply Kd.R_drewN | apply Kd.R_drew)); exact HO366.out)) k_ hk⟩)); (case aO => exact (by (with_reducible repeat (first | apply Kd.R_alloc | apply Kd.R_drewN | apply Kd.R_drew)); exact HO373.out)); (case aS => exact (below_size (by repeat (first | (with_reducible first | exact HB.out | apply below_alloc | apply pw_below_drewN | apply below_drew1 | refine below_set ?_ GE327.out | refine below_set ?_ GE335.out | refine below_set ?_ GE346.out | refine below_set ?_ GE357.out | refine below_set ?_ GE367.out) | exact HB.out)))); (case aL => have := LMc25.out; omega); intro v375 w75 ho hb hg hat; rw [← Ny374.out] at ho; have n0_ := Aside0.mk (blk_grown (g := gb327) (o := .cells #[.int .i64 a0_0, .int .i64 a0_1, .int .i64 a0_2] 23 (0, 0)) (by (with_reducible repeat (first | refine blk_drewN ?_ _ | refine blk_drew ?_ | refine blk_alloc ?_ _)); exact BK327.out) hg (Kd.R_ne HO373.out BK327.out (by decide))); have n1_ := Aside0.mk (Kd.R_after (ok := (fun k_ => some k_ ≠ (.slice Ao74 t343.length co74 : Value).ownBlock ∧ some k_ ≠ (.slice Ao76 t354.length co76 : Value).ownBlock ∧ some k_ ≠ (v365 : Value).ownBlock)) (by (with_reducible repeat (first | apply Kd.R_alloc | apply Kd.R_drewN | apply Kd.R_drew)); exact HO334.out) hg hat); have n2_ := Aside0.mk (blk_grown (g := gb335) (o := .cells #[.int .i64 t329, .int .i64 t330, .int .i64 t331] 23 (0, 0)) (by (with_reducible repeat (first | refine blk_drewN ?_ _ | refine blk_drew ?_ | refine blk_alloc ?_ _)); exact BK335.out) hg (Kd.R_ne HO373.out BK335.out (by decide))); have n3_ := Aside0.mk (Kd.R_after (ok := (fun k_ => some k_ ≠ (v333 : Value).ownBlock ∧ some k_ ≠ (.slice Ao76 t354.length co76 : Value).ownBlock ∧ some k_ ≠ (v365 : Value).ownBlock)) (by (with_reducible repeat (first | apply Kd.R_alloc | apply Kd.R_drewN | apply Kd.R_drew)); exact HO345.out) hg hat); have n4_ := Aside0.mk (blk_grown (g := gb346) (o := .cells #[.int .i64 t340, .int .i64 t341, .int .i64 t342] 23 (0, 0)) (by (with_reducible repeat (first | refine blk_drewN ?_ _ | refine blk_drew ?_ | refine blk_alloc ?_ _)); exact BK346.out) hg (Kd.R_ne HO373.out BK346.out (by decide))); have n5_ := Aside0.mk (Kd.R_after (ok := (fun k_ => some k_ ≠ (v333 : Value).ownBlock ∧ some k_ ≠ (.slice Ao74 t343.length co74 : Value).ownBlock ∧ some k_ ≠ (v365 : Value).ownBlock)) (by (with_reducible repeat (first | apply Kd.R_alloc | apply Kd.R_drewN | apply Kd.R_drew)); exact HO356.out) hg hat); have n6_ := Aside0.mk (blk_grown (g := gb357) (o := .cells #[.int .i64 t351, .int .i64 t352, .int .i64 t353] 23 (0, 0)) (by (with_reducible repeat (first | refine blk_drewN ?_ _ | refine blk_drew ?_ | refine blk_alloc ?_ _)); exact BK357.out) hg (Kd.R_ne HO373.out BK357.out (by decide))); have n7_ := Aside0.mk (Kd.R_over' (by (with_reducible repeat (first | apply Kd.R_alloc | apply Kd.R_drewN | apply Kd.R_drew)); exact HO360.out) (Kd.R_typed (by (with_reducible repeat (first | apply Kd.R_alloc | apply Kd.R_drewN | apply Kd.R_drew)); exact HO373.out)) (by decide) hg); have n8_ := Aside0.mk (Kd.R_after (ok := (fun k_ => some k_ ≠ (v333 : Value).ownBlock ∧ some k_ ≠ (.slice Ao74 t343.length co74 : Value).ownBlock ∧ some k_ ≠ (.slice Ao76 t354.length co76 : Value).ownBlock)) (by (with_reducible repeat (first | apply Kd.R_alloc | apply Kd.R_drewN | apply Kd.R_drew)); exact HO366.out) hg hat); have n9_ := Aside0.mk (blk_grown (g := gb367) (o := .cells #[.int .i64 t361, .int .i64 t362, .int .i64 t363] 23 (0, 0)) (by (with_reducible repeat (first | refine blk_drewN ?_ _ | refine blk_drew ?_ | refine blk_alloc ?_ _)); exact BK367.out) hg (Kd.R_ne HO373.out BK367.out (by decide))); have n10_ := Aside0.mk (hb); have n11_ := Aside0.mk (ho); clear BK327; clear HO334; clear BK335; clear HO345; clear BK346; clear HO356; clear BK357; clear HO360; clear HO366; clear BK367; clear HB; clear HO373; have BK327 := n0_; have HO334 := n1_; have BK335 := n2_; have HO345 := n3_; have BK346 := n4_; have HO356 := n5_; have BK357 := n6_; have HO360 := n7_; have HO366 := n8_; have BK367 := n9_; have HB := n10_; have HO376 := n11_; clear n0_ n1_ n2_ n3_ n4_ n5_ n6_ n7_ n8_ n9_ n10_ n11_; clear ho hb hg hat; obtain ⟨Ao77, co77, eo77⟩ := Kd.R_slice HO334.out; subst eo77; obtain ⟨Ao78, co78, eo78⟩ := Kd.R_slice HO376.out; subst eo78) | (go_at_call 17; (with_reducible refine (sawtoothref16_Same.calls k _ _ t332 _ _ y374 true _ ?side1 ?side2 ?side3 ?side4 A26.out).mono ?_); (case side1 => repeat (first | exact (Kd.R_reads' HO334.out).2.2 | (with_reducible refine Kd.C_alloc ?_ _) | (with_reducible refine Kd.C_drewN ?_ _) | (with_reducible refine Kd.C_drew ?_))); (case side2 => exact (Kd.R_reads' HO334.out).2.1); (case side3 => repeat (first | exact (Kd.R_reads' HO376.out).2.2 | (with_reducible refine Kd.C_alloc ?_ _) | (with_reducible refine Kd.C_drewN ?_ _) | (with_reducible refine Kd.C_drew ?_))); (case side4 => exact (Kd.R_reads' HO376.out).2.1); rintro e w' ⟨rfl, ⟨nd, rfl⟩⟩))
                        go_ret
                        exact ⟨by first | rfl | (simp [errW_none, errW_some] <;> rfl) | (simp only [← hji12]; first | rfl | (simp [errW_none, errW_some] <;> rfl)) | (simp [*, errW_none, errW_some] <;> rfl), by repeat (first | (with_reducible first | exact HB.out | apply below_alloc | apply pw_below_drewN | apply below_drew1 | refine below_set ?_ GE327.out | refine below_set ?_ GE335.out | refine below_set ?_ GE346.out | refine below_set ?_ GE357.out | refine below_set ?_ GE367.out) | exact HB.out)⟩
                      · replace c27 := Bool.eq_false_iff.mpr c27
                        subst c27
                        have H1 : (some false) = some r := by rw [if_neg (show ¬ (false = true) by decide)] at H; exact H
                        clear H
                        have H := H1
                        clear H1
                        exact absurd ((Option.some.inj H).trans hr_) (by simp)
                    · rw [if_neg c25] at H
                      exact absurd H (by simp)
                  · rw [if_neg c24] at H
                    exact absurd H (by simp)
                · rw [if_neg c23] at H
                  have c23b0 : (t329 == t351 && (t330 == t352 && (t331 == t353))) = false := by simpa using c23
                  (try (have c23b1 : decide (t329 = t351 && (t330 == t352 && (t331 == t353))) = false := by simpa using c23))
                  (try (have c23b2 : (t329 == t351 && (t330 == t352 && (t331 == t353))) = false := by simpa using c23))
                  (try (have c23b3 : ¬ (t329 = t351 && (t330 == t352 && (t331 == t353))) := by simpa using c23))
                  clear c23
                  exact absurd ((Option.some.inj H).trans hr_) (by simp)
              · replace c22 := Bool.eq_false_iff.mpr c22
                subst c22
                have H1 : (some false) = some r := by rw [if_neg (show ¬ (false = true) by decide)] at H; exact H
                clear H
                have H := H1
                clear H1
                exact absurd ((Option.some.inj H).trans hr_) (by simp)
            · exact absurd hx_c21 c21
          · exact absurd hx_c20 c20
        · rw [if_neg c14] at H
          exact absurd H (by simp)
      · rw [if_neg c13] at H
        exact absurd H (by simp)

end Go.Proofs.Ytjanmaddjjhjbaa.Hp
