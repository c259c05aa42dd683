/- Functions of the program as Lean functions, each with its contract: the call comes to that answer. Told by wip/tools/handprint.py of this session. -/
import Derived.Test.YtghhjkjdeohmiaaHpx0
import Derived.Test.YtghhjkjdeohmiaaHpx3
import Derived.Test.YtghhjkjdeohmiaaHpx7
import Derived.Test.YtghhjkjdeohmiaaHpx8
import Derived.Test.YtghhjkjdeohmiaaHpx18
namespace Go.Proofs.Ytghhjkjdeohmiaa.Hp
open Go.RowKit Go.Proofs.YtghhjkjdeohmiaaW.PrintWords Go.Proofs.YtghhjkjdeohmiaaW.PrintLast Go.Proofs.YtghhjkjdeohmiaaW.PrintMore
attribute [local go_sem] max2_int min2_int max_two min_two max_three min_three max_four min_four   -- for this text's walks alone
set_option linter.unusedVariables false
set_option linter.unusedSimpArgs false

/-! ### sawtoothlaw08_LeastSince: function 5 -/
def sawtoothlaw08_LeastSince.j0 : Nat → List (S28) → Int → Int → Int → Bool → Bool → Option (Bool)
  | 0, _, _, _, _, _, _ => none
  | k + 1, x0, x1, x2, x3, x9, x32 => if x32 = true then (if x9 = true then (some true) else (some false)) else (if x2 < x1 then ((least_Since.f k x0 (wrap64 (x2)) x3).bind fun bt230 => (if x1 < x2 then ((least_Since.f k x0 (wrap64 (x2)) x3).bind fun bt232 => ((sawtoothref08_Least.f k x0 (wrap64 (x3 - (wrap64 (x2)))) x3).bind fun bt234 => (if x9 = true then (if bt230.1 = bt234.1 then (if (bt230.2 == bt234.2) = true then (if bt230.2 = true then (if bt232.2 = true then (if bt232.1 ≤ bt230.1 then (some true) else (some false)) else (some false)) else (some true)) else (some false)) else (some false)) else (some false)))) else ((least_Since.f k x0 (wrap64 (x1)) x3).bind fun bt236 => ((sawtoothref08_Least.f k x0 (wrap64 (x3 - (wrap64 (x2)))) x3).bind fun bt238 => (if x9 = true then (if bt230.1 = bt238.1 then (if (bt230.2 == bt238.2) = true then (if bt230.2 = true then (if bt236.2 = true then (if bt236.1 ≤ bt230.1 then (some true) else (some false)) else (some false)) else (some true)) else (some false)) else (some false)) else (some false)))))) else ((least_Since.f k x0 (wrap64 (x1)) x3).bind fun bt240 => (if x1 < x2 then ((least_Since.f k x0 (wrap64 (x2)) x3).bind fun bt242 => ((sawtoothref08_Least.f k x0 (wrap64 (x3 - (wrap64 (x1)))) x3).bind fun bt244 => (if x9 = true then (if bt240.1 = bt244.1 then (if (bt240.2 == bt244.2) = true then (if bt240.2 = true then (if bt242.2 = true then (if bt242.1 ≤ bt240.1 then (some true) else (some false)) else (some false)) else (some true)) else (some false)) else (some false)) else (some false)))) else ((least_Since.f k x0 (wrap64 (x1)) x3).bind fun bt246 => ((sawtoothref08_Least.f k x0 (wrap64 (x3 - (wrap64 (x1)))) x3).bind fun bt248 => (if x9 = true then (if bt240.1 = bt248.1 then (if (bt240.2 == bt248.2) = true then (if bt240.2 = true then (if bt246.2 = true then (if bt246.1 ≤ bt240.1 then (some true) else (some false)) else (some false)) else (some true)) else (some false)) else (some false)) else (some false)))))))
def sawtoothlaw08_LeastSince.f (k : Nat) (l0 : List (S28)) (a1 : Int) (a2 : Int) (a3 : Int) : Option (Bool) := (sawtoothlaw08_awake.f k).bind fun t228 => (if (l0.length : Int) > 100 then (sawtoothlaw08_LeastSince.j0 k l0 a1 a2 a3 t228 true) else ((least_Check.f k l0).bind fun t229 => (if t229 = true then (if a3 < 0 then (sawtoothlaw08_LeastSince.j0 k l0 a1 a2 a3 t228 true) else (sawtoothlaw08_LeastSince.j0 k l0 a1 a2 a3 t228 (decide (a3 > 1099511627776)))) else (sawtoothlaw08_LeastSince.j0 k l0 a1 a2 a3 t228 true))))
theorem sawtoothlaw08_LeastSince.mono_l : ∀ k, (∀ y0 y1 y2 y3 y4 y5, LeO (sawtoothlaw08_LeastSince.j0 k y0 y1 y2 y3 y4 y5) (sawtoothlaw08_LeastSince.j0 (k + 1) y0 y1 y2 y3 y4 y5))
  | 0 => fun _ _ _ _ _ _ r h => by simp [sawtoothlaw08_LeastSince.j0] at h
  | k + 1 => by
    have ih0 := sawtoothlaw08_LeastSince.mono_l k
    · intro y0 y1 y2 y3 y4 y5
      unfold sawtoothlaw08_LeastSince.j0
      repeat' first
      | (with_reducible exact ih0 _ _ _ _ _ _)
      | (with_reducible exact least_Check.mono _ _)
      | (with_reducible exact least_Since.mono _ _ _ _)
      | (with_reducible exact sawtoothlaw08_awake.mono _)
      | (with_reducible exact sawtoothref08_Least.mono _ _ _ _)
      | (with_reducible exact LeO.refl _)
      | (with_reducible exact LeO.none _)
      | (with_reducible refine LeO.ite ?_ ?_)
      | (with_reducible refine LeO.bind ?_ (fun _ => ?_))
      | exact ih0 _ _ _ _ _ _
      | exact least_Check.mono _ _
      | exact least_Since.mono _ _ _ _
      | exact sawtoothlaw08_awake.mono _
      | exact sawtoothref08_Least.mono _ _ _ _
      | exact LeO.none _
      | refine LeO.ite ?_ ?_
      | refine LeO.bind ?_ (fun _ => ?_)
theorem sawtoothlaw08_LeastSince.mono : ∀ a0 a1 a2 a3 k, LeO (sawtoothlaw08_LeastSince.f k a0 a1 a2 a3) (sawtoothlaw08_LeastSince.f (k + 1) a0 a1 a2 a3) := by
  intro a0 a1 a2 a3 k
  have ih0 := sawtoothlaw08_LeastSince.mono_l k
  unfold sawtoothlaw08_LeastSince.f
  repeat' first
      | (with_reducible exact ih0 _ _ _ _ _ _)
      | (with_reducible exact least_Check.mono _ _)
      | (with_reducible exact least_Since.mono _ _ _ _)
      | (with_reducible exact sawtoothlaw08_awake.mono _)
      | (with_reducible exact sawtoothref08_Least.mono _ _ _ _)
      | (with_reducible exact LeO.refl _)
      | (with_reducible exact LeO.none _)
      | (with_reducible refine LeO.ite ?_ ?_)
      | (with_reducible refine LeO.bind ?_ (fun _ => ?_))
      | exact ih0 _ _ _ _ _ _
      | exact least_Check.mono _ _
      | exact least_Since.mono _ _ _ _
      | exact sawtoothlaw08_awake.mono _
      | exact sawtoothref08_Least.mono _ _ _ _
      | exact LeO.none _
      | refine LeO.ite ?_ ?_
      | refine LeO.bind ?_ (fun _ => ?_)
set_option maxHeartbeats 8000000 in
set_option maxRecDepth 100000 in
theorem sawtoothlaw08_LeastSince.calls (k : Nat) (A0 : Option Addr) (c0 : Nat) (l0 : List (S28)) (a1 : Int) (a2 : Int) (a3 : Int) (r : Bool) (w : World) (hr0 : Kd.C k28 w A0 l0.length l0) (hc0 : l0.length ≤ c0) (h : sawtoothlaw08_LeastSince.f k l0 a1 a2 a3 = some r) (hr_ : r = true) :
    Calls Try.prog 5 #[.slice A0 l0.length c0, .int .u32 a1, .int .u32 a2, .int .i64 a3] w fun e w' => e = .returned (.bool r) ∧ Below w.heap.size w w' := by
  have HR0 := Aside0.mk hr0
  have HC0 := Aside0.mk hc0
  clear hr0 hc0
  have HB := Aside0.mk (Below.refl w.heap.size w)
  have H : ((sawtoothlaw08_awake.f k).bind fun t228 => (if (l0.length : Int) > 100 then (sawtoothlaw08_LeastSince.j0 k l0 a1 a2 a3 t228 true) else ((least_Check.f k l0).bind fun t229 => (if t229 = true then (if a3 < 0 then (sawtoothlaw08_LeastSince.j0 k l0 a1 a2 a3 t228 true) else (sawtoothlaw08_LeastSince.j0 k l0 a1 a2 a3 t228 (decide (a3 > 1099511627776)))) else (sawtoothlaw08_LeastSince.j0 k l0 a1 a2 a3 t228 true))))) = some r := h
  clear h
  replace H := Option.bind_eq_some_iff.mp H
  obtain ⟨t228, A50, H⟩ := H
  replace H : (if (l0.length : Int) > 100 then (sawtoothlaw08_LeastSince.j0 k l0 a1 a2 a3 t228 true) else ((least_Check.f k l0).bind fun t229 => (if t229 = true then (if a3 < 0 then (sawtoothlaw08_LeastSince.j0 k l0 a1 a2 a3 t228 true) else (sawtoothlaw08_LeastSince.j0 k l0 a1 a2 a3 t228 (decide (a3 > 1099511627776)))) else (sawtoothlaw08_LeastSince.j0 k l0 a1 a2 a3 t228 true)))) = some r := H
  have A5 := Aside0.mk A50
  clear A50
  have HC6 := Aside0.mk H
  clear H
  go_enter Try.func5, Try.ntmps5
  go_upto_region 2 with (first | ((with_reducible refine gate_callee (f := 9) rfl ?_); refine goesL_ (some 16) rfl rfl Try.func9 (by kernel_rfl) rfl #[] rfl (by (try simp only [List.map_toArray, List.map_cons, List.map_nil]); first | done | rfl | (simp only [List.length_drop, List.length_take]; rfl)) ?_; (with_reducible refine (sawtoothlaw08_awake.calls k  t228 _ A5.out).mono ?_); rintro e w7 ⟨rfl, hb⟩; refine ⟨_, rfl, ?_⟩; have n0_ := Aside0.mk (below_step (by repeat (first | (with_reducible first | exact HB.out | apply below_alloc | apply pw_below_drewN | apply below_drew1) | exact HB.out)) hb); clear HB; have HB := n0_; clear n0_; (try clear hb); (try clear hb2); (try clear hk); (try clear hi)))
  (try simp only [Act.put, List.setIfInBounds_toArray, List.set_cons_zero, List.set_cons_succ])
  go_cut [32] (fun v32 wc => ∃ (kq : Nat) (x32_5 : Bool), v32 = .bool x32_5 ∧ Aside0 (sawtoothlaw08_LeastSince.j0 kq l0 a1 a2 a3 t228 x32_5 = some r) ∧ Aside0 (kq ≤ k) ∧ Aside0 (Below w.heap.size w wc))
  case first =>
    have H := HC6.out
    clear HC6
    by_cases c8 : (l0.length : Int) > 100
    · rw [if_pos c8] at H
      have c8b0 : decide (100 < (l0.length : Int)) = true := decide_eq_true c8
      have c8b1 : decide (100 < l0.length) = true := decide_eq_true (by omega)
      clear c8
      (first | rw [c8b0] | (simp only [i64_w, i32_w]; rw [c8b0]) | skip)
      have H' := Aside0.mk H
      clear H
      go_wp2
      go_meet
      case rel => exact ⟨_, (true), (by first | rfl | (simp; done) | (simp [*]; done)), H', ⟨by first | omega | exact Nat.le_refl _⟩, ⟨by repeat (first | (with_reducible first | exact HB.out | apply below_alloc | apply pw_below_drewN | apply below_drew1) | exact HB.out)⟩⟩
    · rw [if_neg c8] at H
      have c8b0 : decide (100 < (l0.length : Int)) = false := decide_eq_false c8
      have c8b1 : decide (100 < l0.length) = false := decide_eq_false (by omega)
      clear c8
      (first | rw [c8b0] | (simp only [i64_w, i32_w]; rw [c8b0]) | skip)
      replace H := Option.bind_eq_some_iff.mp H
      obtain ⟨t229, A90, H⟩ := H
      replace H : (if t229 = true then (if a3 < 0 then (sawtoothlaw08_LeastSince.j0 k l0 a1 a2 a3 t228 true) else (sawtoothlaw08_LeastSince.j0 k l0 a1 a2 a3 t228 (decide (a3 > 1099511627776)))) else (sawtoothlaw08_LeastSince.j0 k l0 a1 a2 a3 t228 true)) = some r := H
      have A9 := Aside0.mk A90
      clear A90
      by_cases c10 : t229 = true
      · subst c10
        have H1 : (if a3 < 0 then (sawtoothlaw08_LeastSince.j0 k l0 a1 a2 a3 t228 true) else (sawtoothlaw08_LeastSince.j0 k l0 a1 a2 a3 t228 (decide (a3 > 1099511627776)))) = some r := by rw [if_pos rfl] at H; exact H
        clear H
        have H := H1
        clear H1
        by_cases c11 : a3 < 0
        · rw [if_pos c11] at H
          have c11b0 : decide (a3 < 0) = true := decide_eq_true c11
          clear c11
          have H' := Aside0.mk H
          clear H
          go_wp2_with (first | (go_at_call 17; (with_reducible refine (least_Check.calls k _ _ l0 true _ ?side1 ?side2 A9.out).mono ?_); (case side1 => repeat (first | exact (Kd.C_below HR0.out HB.out) | (with_reducible refine Kd.C_alloc ?_ _) | (with_reducible refine Kd.C_drewN ?_ _) | (with_reducible refine Kd.C_drew ?_))); (case side2 => exact HC0.out); rintro e w12 ⟨rfl, hb⟩; have n0_ := Aside0.mk (below_step (by repeat (first | (with_reducible first | exact HB.out | apply below_alloc | apply pw_below_drewN | apply below_drew1) | exact HB.out)) hb); clear HB; have HB := n0_; clear n0_; (try clear hb); (try clear hb2); (try clear hk); (try clear hi)))
          go_meet
          case rel => exact ⟨_, (true), (by first | rfl | (simp; done) | (simp [*]; done)), H', ⟨by first | omega | exact Nat.le_refl _⟩, ⟨by repeat (first | (with_reducible first | exact HB.out | apply below_alloc | apply pw_below_drewN | apply below_drew1) | exact HB.out)⟩⟩
        · rw [if_neg c11] at H
          have c11b0 : decide (a3 < 0) = false := decide_eq_false c11
          clear c11
          have H' := Aside0.mk H
          clear H
          go_wp2_with (first | (go_at_call 17; (with_reducible refine (least_Check.calls k _ _ l0 true _ ?side1 ?side2 A9.out).mono ?_); (case side1 => repeat (first | exact (Kd.C_below HR0.out HB.out) | (with_reducible refine Kd.C_alloc ?_ _) | (with_reducible refine Kd.C_drewN ?_ _) | (with_reducible refine Kd.C_drew ?_))); (case side2 => exact HC0.out); rintro e w13 ⟨rfl, hb⟩; have n0_ := Aside0.mk (below_step (by repeat (first | (with_reducible first | exact HB.out | apply below_alloc | apply pw_below_drewN | apply below_drew1) | exact HB.out)) hb); clear HB; have HB := n0_; clear n0_; (try clear hb); (try clear hb2); (try clear hk); (try clear hi)))
          go_meet
          case rel => exact ⟨_, (decide (a3 > 1099511627776)), (by first | rfl | (simp; done) | (simp [*]; done)), H', ⟨by first | omega | exact Nat.le_refl _⟩, ⟨by repeat (first | (with_reducible first | exact HB.out | apply below_alloc | apply pw_below_drewN | apply below_drew1) | exact HB.out)⟩⟩
      · replace c10 := Bool.eq_false_iff.mpr c10
        subst c10
        have H1 : (sawtoothlaw08_LeastSince.j0 k l0 a1 a2 a3 t228 true) = some r := by rw [if_neg (show ¬ (false = true) by decide)] at H; exact H
        clear H
        have H := H1
        clear H1
        have H' := Aside0.mk H
        clear H
        go_wp2_with (first | (go_at_call 17; (with_reducible refine (least_Check.calls k _ _ l0 false _ ?side1 ?side2 A9.out).mono ?_); (case side1 => repeat (first | exact (Kd.C_below HR0.out HB.out) | (with_reducible refine Kd.C_alloc ?_ _) | (with_reducible refine Kd.C_drewN ?_ _) | (with_reducible refine Kd.C_drew ?_))); (case side2 => exact HC0.out); rintro e w14 ⟨rfl, hb⟩; have n0_ := Aside0.mk (below_step (by repeat (first | (with_reducible first | exact HB.out | apply below_alloc | apply pw_below_drewN | apply below_drew1) | exact HB.out)) hb); clear HB; have HB := n0_; clear n0_; (try clear hb); (try clear hb2); (try clear hk); (try clear hi)))
        go_meet
        case rel => exact ⟨_, (true), (by first | rfl | (simp; done) | (simp [*]; done)), H', ⟨by first | omega | exact Nat.le_refl _⟩, ⟨by repeat (first | (with_reducible first | exact HB.out | apply below_alloc | apply pw_below_drewN | apply below_drew1) | exact HB.out)⟩⟩
  case rest =>
    clear HC6
    try clear c1
    try clear p2
    try clear c5
    try clear c8
    try clear c8b0
    try clear c8b1
    try clear c9
    try clear c10
    try clear c11
    try clear c11b0
    obtain ⟨kq, x32_5, rfl, HA, HJ5, HB⟩ := hcut
    cases kq with
    | zero => exact absurd HA.out (by simp [sawtoothlaw08_LeastSince.j0])
    | succ kj5 =>
      have H := HA.out
      clear HA
      simp only [sawtoothlaw08_LeastSince.j0] at H
      by_cases c15 : x32_5 = true
      · subst c15
        have H1 : (if t228 = true then (some true) else (some false)) = some r := by rw [if_pos rfl] at H; exact H
        clear H
        have H := H1
        clear H1
        by_cases c16 : t228 = true
        · subst c16
          have H1 : (some true) = some r := by rw [if_pos rfl] at H; exact H
          clear H
          have H := H1
          clear H1
          obtain rfl := Option.some.inj H
          go_wp2
          go_ret
          exact ⟨by first | rfl | (simp [errW_none, errW_some] <;> rfl) | (simp [*, errW_none, errW_some] <;> rfl), by repeat (first | (with_reducible first | exact HB.out | apply below_alloc | apply pw_below_drewN | apply below_drew1) | exact HB.out)⟩
        · replace c16 := Bool.eq_false_iff.mpr c16
          subst c16
          have H1 : (some false) = some r := by rw [if_neg (show ¬ (false = true) by decide)] at H; exact H
          clear H
          have H := H1
          clear H1
          exact absurd ((Option.some.inj H).trans hr_) (by simp)
      · replace c15 := Bool.eq_false_iff.mpr c15
        subst c15
        have H1 : (if a2 < a1 then ((least_Since.f kj5 l0 (wrap64 (a2)) a3).bind fun bt230 => (if a1 < a2 then ((least_Since.f kj5 l0 (wrap64 (a2)) a3).bind fun bt232 => ((sawtoothref08_Least.f kj5 l0 (wrap64 (a3 - (wrap64 (a2)))) a3).bind fun bt234 => (if t228 = true then (if bt230.1 = bt234.1 then (if (bt230.2 == bt234.2) = true then (if bt230.2 = true then (if bt232.2 = true then (if bt232.1 ≤ bt230.1 then (some true) else (some false)) else (some false)) else (some true)) else (some false)) else (some false)) else (some false)))) else ((least_Since.f kj5 l0 (wrap64 (a1)) a3).bind fun bt236 => ((sawtoothref08_Least.f kj5 l0 (wrap64 (a3 - (wrap64 (a2)))) a3).bind fun bt238 => (if t228 = true then (if bt230.1 = bt238.1 then (if (bt230.2 == bt238.2) = true then (if bt230.2 = true then (if bt236.2 = true then (if bt236.1 ≤ bt230.1 then (some true) else (some false)) else (some false)) else (some true)) else (some false)) else (some false)) else (some false)))))) else ((least_Since.f kj5 l0 (wrap64 (a1)) a3).bind fun bt240 => (if a1 < a2 then ((least_Since.f kj5 l0 (wrap64 (a2)) a3).bind fun bt242 => ((sawtoothref08_Least.f kj5 l0 (wrap64 (a3 - (wrap64 (a1)))) a3).bind fun bt244 => (if t228 = true then (if bt240.1 = bt244.1 then (if (bt240.2 == bt244.2) = true then (if bt240.2 = true then (if bt242.2 = true then (if bt242.1 ≤ bt240.1 then (some true) else (some false)) else (some false)) else (some true)) else (some false)) else (some false)) else (some false)))) else ((least_Since.f kj5 l0 (wrap64 (a1)) a3).bind fun bt246 => ((sawtoothref08_Least.f kj5 l0 (wrap64 (a3 - (wrap64 (a1)))) a3).bind fun bt248 => (if t228 = true then (if bt240.1 = bt248.1 then (if (bt240.2 == bt248.2) = true then (if bt240.2 = true then (if bt246.2 = true then (if bt246.1 ≤ bt240.1 then (some true) else (some false)) else (some false)) else (some true)) else (some false)) else (some false)) else (some false))))))) = some r := by rw [if_neg (show ¬ (false = true) by decide)] at H; exact H
        clear H
        have H := H1
        clear H1
        by_cases c17 : a2 < a1
        · rw [if_pos c17] at H
          have c17i := eq_true c17
          have c17b0 : decide (a2 < a1) = true := decide_eq_true c17
          clear c17
          replace H := Option.bind_eq_some_iff.mp H
          obtain ⟨⟨t230, t231⟩, A180, H⟩ := H
          replace H : (if a1 < a2 then ((least_Since.f kj5 l0 (wrap64 (a2)) a3).bind fun bt232 => ((sawtoothref08_Least.f kj5 l0 (wrap64 (a3 - (wrap64 (a2)))) a3).bind fun bt234 => (if t228 = true then (if t230 = bt234.1 then (if (t231 == bt234.2) = true then (if t231 = true then (if bt232.2 = true then (if bt232.1 ≤ t230 then (some true) else (some false)) else (some false)) else (some true)) else (some false)) else (some false)) else (some false)))) else ((least_Since.f kj5 l0 (wrap64 (a1)) a3).bind fun bt236 => ((sawtoothref08_Least.f kj5 l0 (wrap64 (a3 - (wrap64 (a2)))) a3).bind fun bt238 => (if t228 = true then (if t230 = bt238.1 then (if (t231 == bt238.2) = true then (if t231 = true then (if bt236.2 = true then (if bt236.1 ≤ t230 then (some true) else (some false)) else (some false)) else (some true)) else (some false)) else (some false)) else (some false))))) = some r := H
          have A18 := Aside0.mk A180
          clear A180
          by_cases c19 : a1 < a2
          · rw [if_pos c19] at H
            have c19i := eq_true c19
            have c19b0 : decide (a1 < a2) = true := decide_eq_true c19
            clear c19
            replace H := Option.bind_eq_some_iff.mp H
            obtain ⟨⟨t232, t233⟩, A200, H⟩ := H
            replace H : ((sawtoothref08_Least.f kj5 l0 (wrap64 (a3 - (wrap64 (a2)))) a3).bind fun bt234 => (if t228 = true then (if t230 = bt234.1 then (if (t231 == bt234.2) = true then (if t231 = true then (if t233 = true then (if t232 ≤ t230 then (some true) else (some false)) else (some false)) else (some true)) else (some false)) else (some false)) else (some false))) = some r := H
            have A20 := Aside0.mk A200
            clear A200
            have e_ := Option.some.inj (A18.out.symm.trans A20.out)
            simp only [Prod.mk.injEq] at e_
            obtain ⟨rfl, rfl⟩ := e_
            replace H : ((sawtoothref08_Least.f kj5 l0 (wrap64 (a3 - (wrap64 (a2)))) a3).bind fun bt234 => (if t228 = true then (if t230 = bt234.1 then (if (t231 == bt234.2) = true then (if t231 = true then (if t231 = true then (if t230 ≤ t230 then (some true) else (some false)) else (some false)) else (some true)) else (some false)) else (some false)) else (some false))) = some r := H
            replace H := Option.bind_eq_some_iff.mp H
            obtain ⟨⟨t234, t235⟩, A210, H⟩ := H
            replace H : (if t228 = true then (if t230 = t234 then (if (t231 == t235) = true then (if t231 = true then (if t231 = true then (if t230 ≤ t230 then (some true) else (some false)) else (some false)) else (some true)) else (some false)) else (some false)) else (some false)) = some r := H
            have A21 := Aside0.mk A210
            clear A210
            by_cases c22 : t228 = true
            · subst c22
              have H1 : (if t230 = t234 then (if (t231 == t235) = true then (if t231 = true then (if t231 = true then (if t230 ≤ t230 then (some true) else (some false)) else (some false)) else (some true)) else (some false)) else (some false)) = some r := by rw [if_pos rfl] at H; exact H
              clear H
              have H := H1
              clear H1
              by_cases c23 : t230 = t234
              · rw [if_pos c23] at H
                have c23b0 : (t230 == t234) = true := beq_iff_eq.mpr c23
                have c23b1 : (t230 != t234) = false := bne_eq_false_iff_eq.mpr c23
                clear c23
                by_cases c24 : (t231 == t235) = true
                · rw [if_pos c24] at H
                  have c24b0 : (t231 == t235) = true := c24
                  (try (have c24b1 : decide (t231 = t235) = true := by simpa using c24))
                  (try (have c24b2 : (t231 == t235) = true := by simpa using c24))
                  clear c24
                  by_cases c25 : t231 = true
                  · subst c25
                    have H1 : (if true = true then (if t230 ≤ t230 then (some true) else (some false)) else (some false)) = some r := by rw [if_pos rfl] at H; exact H
                    clear H
                    have H := H1
                    clear H1
                    by_cases c26 : true = true
                    · skip
                      have H1 : (if t230 ≤ t230 then (some true) else (some false)) = some r := by rw [if_pos rfl] at H; exact H
                      clear H
                      have H := H1
                      clear H1
                      by_cases c27 : t230 ≤ t230
                      · rw [if_pos c27] at H
                        have c27b0 : decide (t230 ≤ t230) = true := decide_eq_true c27
                        clear c27
                        obtain rfl := Option.some.inj H
                        go_wp2_with (first | ((with_reducible refine gate_callee (f := 15) rfl ?_); refine goesL_ (some 41) rfl rfl Try.func15 (by kernel_rfl) rfl #[.slice A0 l0.length c0, .int .i64 (wrap64 (a2)), .int .i64 a3] rfl (by (try simp only [List.map_toArray, List.map_cons, List.map_nil]); first | done | rfl | (simp only [List.length_drop, List.length_take]; rfl)) ?_; (with_reducible refine (least_Since.calls kj5 _ _ l0 (wrap64 (a2)) a3 t230 true _ ?side1 ?side2 A18.out).mono ?_); (case side1 => repeat (first | exact (Kd.C_below HR0.out HB.out) | (with_reducible refine Kd.C_alloc ?_ _) | (with_reducible refine Kd.C_drewN ?_ _) | (with_reducible refine Kd.C_drew ?_))); (case side2 => exact HC0.out); rintro e w28 ⟨rfl, hb⟩; refine ⟨_, rfl, ?_⟩; have n0_ := Aside0.mk (below_step (by repeat (first | (with_reducible first | exact HB.out | apply below_alloc | apply pw_below_drewN | apply below_drew1) | exact HB.out)) hb); clear HB; have HB := n0_; clear n0_; (try clear hb); (try clear hb2); (try clear hk); (try clear hi)) | ((with_reducible refine gate_callee (f := 15) rfl ?_); refine goesL_ (some 51) rfl rfl Try.func15 (by kernel_rfl) rfl #[.slice A0 l0.length c0, .int .i64 (wrap64 (a2)), .int .i64 a3] rfl (by (try simp only [List.map_toArray, List.map_cons, List.map_nil]); first | done | rfl | (simp only [List.length_drop, List.length_take]; rfl)) ?_; (with_reducible refine (least_Since.calls kj5 _ _ l0 (wrap64 (a2)) a3 t230 true _ ?side1 ?side2 A20.out).mono ?_); (case side1 => repeat (first | exact (Kd.C_below HR0.out HB.out) | (with_reducible refine Kd.C_alloc ?_ _) | (with_reducible refine Kd.C_drewN ?_ _) | (with_reducible refine Kd.C_drew ?_))); (case side2 => exact HC0.out); rintro e w29 ⟨rfl, hb⟩; refine ⟨_, rfl, ?_⟩; have n0_ := Aside0.mk (below_step (by repeat (first | (with_reducible first | exact HB.out | apply below_alloc | apply pw_below_drewN | apply below_drew1) | exact HB.out)) hb); clear HB; have HB := n0_; clear n0_; (try clear hb); (try clear hb2); (try clear hk); (try clear hi)) | ((with_reducible refine gate_callee (f := 19) rfl ?_); refine goesL_ (some 63) rfl rfl Try.func19 (by kernel_rfl) rfl #[.slice A0 l0.length c0, .int .i64 (wrap64 (a3 - (wrap64 (a2)))), .int .i64 a3] rfl (by (try simp only [List.map_toArray, List.map_cons, List.map_nil]); first | done | rfl | (simp only [List.length_drop, List.length_take]; rfl)) ?_; (with_reducible refine (sawtoothref08_Least.calls kj5 _ _ l0 (wrap64 (a3 - (wrap64 (a2)))) a3 t234 t235 _ ?side1 ?side2 A21.out).mono ?_); (case side1 => repeat (first | exact (Kd.C_below HR0.out HB.out) | (with_reducible refine Kd.C_alloc ?_ _) | (with_reducible refine Kd.C_drewN ?_ _) | (with_reducible refine Kd.C_drew ?_))); (case side2 => exact HC0.out); rintro e w' ⟨rfl, ⟨nd, rfl⟩⟩; refine ⟨_, rfl, ?_⟩))
                        go_ret
                        exact ⟨by first | rfl | (simp [errW_none, errW_some] <;> rfl) | (simp [*, errW_none, errW_some] <;> rfl), by repeat (first | (with_reducible first | exact HB.out | apply below_alloc | apply pw_below_drewN | apply below_drew1) | exact HB.out)⟩
                      · rw [if_neg c27] at H
                        have c27b0 : decide (t230 ≤ t230) = false := decide_eq_false c27
                        clear c27
                        exact absurd ((Option.some.inj H).trans hr_) (by simp)
                    · exact absurd rfl c26
                  · replace c25 := Bool.eq_false_iff.mpr c25
                    subst c25
                    have H1 : (some true) = some r := by rw [if_neg (show ¬ (false = true) by decide)] at H; exact H
                    clear H
                    have H := H1
                    clear H1
                    obtain rfl := Option.some.inj H
                    go_wp2_with (first | ((with_reducible refine gate_callee (f := 15) rfl ?_); refine goesL_ (some 41) rfl rfl Try.func15 (by kernel_rfl) rfl #[.slice A0 l0.length c0, .int .i64 (wrap64 (a2)), .int .i64 a3] rfl (by (try simp only [List.map_toArray, List.map_cons, List.map_nil]); first | done | rfl | (simp only [List.length_drop, List.length_take]; rfl)) ?_; (with_reducible refine (least_Since.calls kj5 _ _ l0 (wrap64 (a2)) a3 t230 false _ ?side1 ?side2 A18.out).mono ?_); (case side1 => repeat (first | exact (Kd.C_below HR0.out HB.out) | (with_reducible refine Kd.C_alloc ?_ _) | (with_reducible refine Kd.C_drewN ?_ _) | (with_reducible refine Kd.C_drew ?_))); (case side2 => exact HC0.out); rintro e w30 ⟨rfl, hb⟩; refine ⟨_, rfl, ?_⟩; have n0_ := Aside0.mk (below_step (by repeat (first | (with_reducible first | exact HB.out | apply below_alloc | apply pw_below_drewN | apply below_drew1) | exact HB.out)) hb); clear HB; have HB := n0_; clear n0_; (try clear hb); (try clear hb2); (try clear hk); (try clear hi)) | ((with_reducible refine gate_callee (f := 15) rfl ?_); refine goesL_ (some 51) rfl rfl Try.func15 (by kernel_rfl) rfl #[.slice A0 l0.length c0, .int .i64 (wrap64 (a2)), .int .i64 a3] rfl (by (try simp only [List.map_toArray, List.map_cons, List.map_nil]); first | done | rfl | (simp only [List.length_drop, List.length_take]; rfl)) ?_; (with_reducible refine (least_Since.calls kj5 _ _ l0 (wrap64 (a2)) a3 t230 false _ ?side1 ?side2 A20.out).mono ?_); (case side1 => repeat (first | exact (Kd.C_below HR0.out HB.out) | (with_reducible refine Kd.C_alloc ?_ _) | (with_reducible refine Kd.C_drewN ?_ _) | (with_reducible refine Kd.C_drew ?_))); (case side2 => exact HC0.out); rintro e w31 ⟨rfl, hb⟩; refine ⟨_, rfl, ?_⟩; have n0_ := Aside0.mk (below_step (by repeat (first | (with_reducible first | exact HB.out | apply below_alloc | apply pw_below_drewN | apply below_drew1) | exact HB.out)) hb); clear HB; have HB := n0_; clear n0_; (try clear hb); (try clear hb2); (try clear hk); (try clear hi)) | ((with_reducible refine gate_callee (f := 19) rfl ?_); refine goesL_ (some 63) rfl rfl Try.func19 (by kernel_rfl) rfl #[.slice A0 l0.length c0, .int .i64 (wrap64 (a3 - (wrap64 (a2)))), .int .i64 a3] rfl (by (try simp only [List.map_toArray, List.map_cons, List.map_nil]); first | done | rfl | (simp only [List.length_drop, List.length_take]; rfl)) ?_; (with_reducible refine (sawtoothref08_Least.calls kj5 _ _ l0 (wrap64 (a3 - (wrap64 (a2)))) a3 t234 t235 _ ?side1 ?side2 A21.out).mono ?_); (case side1 => repeat (first | exact (Kd.C_below HR0.out HB.out) | (with_reducible refine Kd.C_alloc ?_ _) | (with_reducible refine Kd.C_drewN ?_ _) | (with_reducible refine Kd.C_drew ?_))); (case side2 => exact HC0.out); rintro e w' ⟨rfl, ⟨nd, rfl⟩⟩; refine ⟨_, rfl, ?_⟩))
                    go_ret
                    exact ⟨by first | rfl | (simp [errW_none, errW_some] <;> rfl) | (simp [*, errW_none, errW_some] <;> rfl), by repeat (first | (with_reducible first | exact HB.out | apply below_alloc | apply pw_below_drewN | apply below_drew1) | exact HB.out)⟩
                · rw [if_neg c24] at H
                  have c24b0 : (t231 == t235) = false := by simpa using c24
                  (try (have c24b1 : decide (t231 = t235) = false := by simpa using c24))
                  (try (have c24b2 : (t231 == t235) = false := by simpa using c24))
                  (try (have c24b3 : ¬ (t231 = t235) := by simpa using c24))
                  clear c24
                  exact absurd ((Option.some.inj H).trans hr_) (by simp)
              · rw [if_neg c23] at H
                have c23b0 : (t230 == t234) = false := beq_eq_false_iff_ne.mpr c23
                have c23b1 : (t230 != t234) = true := bne_iff_ne.mpr c23
                exact absurd ((Option.some.inj H).trans hr_) (by simp)
            · replace c22 := Bool.eq_false_iff.mpr c22
              subst c22
              have H1 : (some false) = some r := by rw [if_neg (show ¬ (false = true) by decide)] at H; exact H
              clear H
              have H := H1
              clear H1
              exact absurd ((Option.some.inj H).trans hr_) (by simp)
          · rw [if_neg c19] at H
            have c19i := eq_false c19
            have c19b0 : decide (a1 < a2) = false := decide_eq_false c19
            clear c19
            replace H := Option.bind_eq_some_iff.mp H
            obtain ⟨⟨t236, t237⟩, A320, H⟩ := H
            replace H : ((sawtoothref08_Least.f kj5 l0 (wrap64 (a3 - (wrap64 (a2)))) a3).bind fun bt238 => (if t228 = true then (if t230 = bt238.1 then (if (t231 == bt238.2) = true then (if t231 = true then (if t237 = true then (if t236 ≤ t230 then (some true) else (some false)) else (some false)) else (some true)) else (some false)) else (some false)) else (some false))) = some r := H
            have A32 := Aside0.mk A320
            clear A320
            replace H := Option.bind_eq_some_iff.mp H
            obtain ⟨⟨t238, t239⟩, A330, H⟩ := H
            replace H : (if t228 = true then (if t230 = t238 then (if (t231 == t239) = true then (if t231 = true then (if t237 = true then (if t236 ≤ t230 then (some true) else (some false)) else (some false)) else (some true)) else (some false)) else (some false)) else (some false)) = some r := H
            have A33 := Aside0.mk A330
            clear A330
            by_cases c34 : t228 = true
            · subst c34
              have H1 : (if t230 = t238 then (if (t231 == t239) = true then (if t231 = true then (if t237 = true then (if t236 ≤ t230 then (some true) else (some false)) else (some false)) else (some true)) else (some false)) else (some false)) = some r := by rw [if_pos rfl] at H; exact H
              clear H
              have H := H1
              clear H1
              by_cases c35 : t230 = t238
              · rw [if_pos c35] at H
                have c35b0 : (t230 == t238) = true := beq_iff_eq.mpr c35
                have c35b1 : (t230 != t238) = false := bne_eq_false_iff_eq.mpr c35
                clear c35
                by_cases c36 : (t231 == t239) = true
                · rw [if_pos c36] at H
                  have c36b0 : (t231 == t239) = true := c36
                  (try (have c36b1 : decide (t231 = t239) = true := by simpa using c36))
                  (try (have c36b2 : (t231 == t239) = true := by simpa using c36))
                  clear c36
                  by_cases c37 : t231 = true
                  · subst c37
                    have H1 : (if t237 = true then (if t236 ≤ t230 then (some true) else (some false)) else (some false)) = some r := by rw [if_pos rfl] at H; exact H
                    clear H
                    have H := H1
                    clear H1
                    by_cases c38 : t237 = true
                    · subst c38
                      have H1 : (if t236 ≤ t230 then (some true) else (some false)) = some r := by rw [if_pos rfl] at H; exact H
                      clear H
                      have H := H1
                      clear H1
                      by_cases c39 : t236 ≤ t230
                      · rw [if_pos c39] at H
                        have c39b0 : decide (t236 ≤ t230) = true := decide_eq_true c39
                        clear c39
                        obtain rfl := Option.some.inj H
                        go_wp2_with (first | ((with_reducible refine gate_callee (f := 15) rfl ?_); refine goesL_ (some 41) rfl rfl Try.func15 (by kernel_rfl) rfl #[.slice A0 l0.length c0, .int .i64 (wrap64 (a2)), .int .i64 a3] rfl (by (try simp only [List.map_toArray, List.map_cons, List.map_nil]); first | done | rfl | (simp only [List.length_drop, List.length_take]; rfl)) ?_; (with_reducible refine (least_Since.calls kj5 _ _ l0 (wrap64 (a2)) a3 t230 true _ ?side1 ?side2 A18.out).mono ?_); (case side1 => repeat (first | exact (Kd.C_below HR0.out HB.out) | (with_reducible refine Kd.C_alloc ?_ _) | (with_reducible refine Kd.C_drewN ?_ _) | (with_reducible refine Kd.C_drew ?_))); (case side2 => exact HC0.out); rintro e w40 ⟨rfl, hb⟩; refine ⟨_, rfl, ?_⟩; have n0_ := Aside0.mk (below_step (by repeat (first | (with_reducible first | exact HB.out | apply below_alloc | apply pw_below_drewN | apply below_drew1) | exact HB.out)) hb); clear HB; have HB := n0_; clear n0_; (try clear hb); (try clear hb2); (try clear hk); (try clear hi)) | ((with_reducible refine gate_callee (f := 15) rfl ?_); refine goesL_ (some 51) rfl rfl Try.func15 (by kernel_rfl) rfl #[.slice A0 l0.length c0, .int .i64 (wrap64 (a1)), .int .i64 a3] rfl (by (try simp only [List.map_toArray, List.map_cons, List.map_nil]); first | done | rfl | (simp only [List.length_drop, List.length_take]; rfl)) ?_; (with_reducible refine (least_Since.calls kj5 _ _ l0 (wrap64 (a1)) a3 t236 true _ ?side1 ?side2 A32.out).mono ?_); (case side1 => repeat (first | exact (Kd.C_below HR0.out HB.out) | (with_reducible refine Kd.C_alloc ?_ _) | (with_reducible refine Kd.C_drewN ?_ _) | (with_reducible refine Kd.C_drew ?_))); (case side2 => exact HC0.out); rintro e w41 ⟨rfl, hb⟩; refine ⟨_, rfl, ?_⟩; have n0_ := Aside0.mk (below_step (by repeat (first | (with_reducible first | exact HB.out | apply below_alloc | apply pw_below_drewN | apply below_drew1) | exact HB.out)) hb); clear HB; have HB := n0_; clear n0_; (try clear hb); (try clear hb2); (try clear hk); (try clear hi)) | ((with_reducible refine gate_callee (f := 19) rfl ?_); refine goesL_ (some 63) rfl rfl Try.func19 (by kernel_rfl) rfl #[.slice A0 l0.length c0, .int .i64 (wrap64 (a3 - (wrap64 (a2)))), .int .i64 a3] rfl (by (try simp only [List.map_toArray, List.map_cons, List.map_nil]); first | done | rfl | (simp only [List.length_drop, List.length_take]; rfl)) ?_; (with_reducible refine (sawtoothref08_Least.calls kj5 _ _ l0 (wrap64 (a3 - (wrap64 (a2)))) a3 t238 t239 _ ?side1 ?side2 A33.out).mono ?_); (case side1 => repeat (first | exact (Kd.C_below HR0.out HB.out) | (with_reducible refine Kd.C_alloc ?_ _) | (with_reducible refine Kd.C_drewN ?_ _) | (with_reducible refine Kd.C_drew ?_))); (case side2 => exact HC0.out); rintro e w' ⟨rfl, ⟨nd, rfl⟩⟩; refine ⟨_, rfl, ?_⟩))
                        go_ret
                        exact ⟨by first | rfl | (simp [errW_none, errW_some] <;> rfl) | (simp [*, errW_none, errW_some] <;> rfl), by repeat (first | (with_reducible first | exact HB.out | apply below_alloc | apply pw_below_drewN | apply below_drew1) | exact HB.out)⟩
                      · rw [if_neg c39] at H
                        have c39b0 : decide (t236 ≤ t230) = false := decide_eq_false c39
                        clear c39
                        exact absurd ((Option.some.inj H).trans hr_) (by simp)
                    · replace c38 := Bool.eq_false_iff.mpr c38
                      subst c38
                      have H1 : (some false) = some r := by rw [if_neg (show ¬ (false = true) by decide)] at H; exact H
                      clear H
                      have H := H1
                      clear H1
                      exact absurd ((Option.some.inj H).trans hr_) (by simp)
                  · replace c37 := Bool.eq_false_iff.mpr c37
                    subst c37
                    have H1 : (some true) = some r := by rw [if_neg (show ¬ (false = true) by decide)] at H; exact H
                    clear H
                    have H := H1
                    clear H1
                    obtain rfl := Option.some.inj H
                    go_wp2_with (first | ((with_reducible refine gate_callee (f := 15) rfl ?_); refine goesL_ (some 41) rfl rfl Try.func15 (by kernel_rfl) rfl #[.slice A0 l0.length c0, .int .i64 (wrap64 (a2)), .int .i64 a3] rfl (by (try simp only [List.map_toArray, List.map_cons, List.map_nil]); first | done | rfl | (simp only [List.length_drop, List.length_take]; rfl)) ?_; (with_reducible refine (least_Since.calls kj5 _ _ l0 (wrap64 (a2)) a3 t230 false _ ?side1 ?side2 A18.out).mono ?_); (case side1 => repeat (first | exact (Kd.C_below HR0.out HB.out) | (with_reducible refine Kd.C_alloc ?_ _) | (with_reducible refine Kd.C_drewN ?_ _) | (with_reducible refine Kd.C_drew ?_))); (case side2 => exact HC0.out); rintro e w42 ⟨rfl, hb⟩; refine ⟨_, rfl, ?_⟩; have n0_ := Aside0.mk (below_step (by repeat (first | (with_reducible first | exact HB.out | apply below_alloc | apply pw_below_drewN | apply below_drew1) | exact HB.out)) hb); clear HB; have HB := n0_; clear n0_; (try clear hb); (try clear hb2); (try clear hk); (try clear hi)) | ((with_reducible refine gate_callee (f := 15) rfl ?_); refine goesL_ (some 51) rfl rfl Try.func15 (by kernel_rfl) rfl #[.slice A0 l0.length c0, .int .i64 (wrap64 (a1)), .int .i64 a3] rfl (by (try simp only [List.map_toArray, List.map_cons, List.map_nil]); first | done | rfl | (simp only [List.length_drop, List.length_take]; rfl)) ?_; (with_reducible refine (least_Since.calls kj5 _ _ l0 (wrap64 (a1)) a3 t236 t237 _ ?side1 ?side2 A32.out).mono ?_); (case side1 => repeat (first | exact (Kd.C_below HR0.out HB.out) | (with_reducible refine Kd.C_alloc ?_ _) | (with_reducible refine Kd.C_drewN ?_ _) | (with_reducible refine Kd.C_drew ?_))); (case side2 => exact HC0.out); rintro e w43 ⟨rfl, hb⟩; refine ⟨_, rfl, ?_⟩; have n0_ := Aside0.mk (below_step (by repeat (first | (with_reducible first | exact HB.out | apply below_alloc | apply pw_below_drewN | apply below_drew1) | exact HB.out)) hb); clear HB; have HB := n0_; clear n0_; (try clear hb); (try clear hb2); (try clear hk); (try clear hi)) | ((with_reducible refine gate_callee (f := 19) rfl ?_); refine goesL_ (some 63) rfl rfl Try.func19 (by kernel_rfl) rfl #[.slice A0 l0.length c0, .int .i64 (wrap64 (a3 - (wrap64 (a2)))), .int .i64 a3] rfl (by (try simp only [List.map_toArray, List.map_cons, List.map_nil]); first | done | rfl | (simp only [List.length_drop, List.length_take]; rfl)) ?_; (with_reducible refine (sawtoothref08_Least.calls kj5 _ _ l0 (wrap64 (a3 - (wrap64 (a2)))) a3 t238 t239 _ ?side1 ?side2 A33.out).mono ?_); (case side1 => repeat (first | exact (Kd.C_below HR0.out HB.out) | (with_reducible refine Kd.C_alloc ?_ _) | (with_reducible refine Kd.C_drewN ?_ _) | (with_reducible refine Kd.C_drew ?_))); (case side2 => exact HC0.out); rintro e w' ⟨rfl, ⟨nd, rfl⟩⟩; refine ⟨_, rfl, ?_⟩))
                    go_ret
                    exact ⟨by first | rfl | (simp [errW_none, errW_some] <;> rfl) | (simp [*, errW_none, errW_some] <;> rfl), by repeat (first | (with_reducible first | exact HB.out | apply below_alloc | apply pw_below_drewN | apply below_drew1) | exact HB.out)⟩
                · rw [if_neg c36] at H
                  have c36b0 : (t231 == t239) = false := by simpa using c36
                  (try (have c36b1 : decide (t231 = t239) = false := by simpa using c36))
                  (try (have c36b2 : (t231 == t239) = false := by simpa using c36))
                  (try (have c36b3 : ¬ (t231 = t239) := by simpa using c36))
                  clear c36
                  exact absurd ((Option.some.inj H).trans hr_) (by simp)
              · rw [if_neg c35] at H
                have c35b0 : (t230 == t238) = false := beq_eq_false_iff_ne.mpr c35
                have c35b1 : (t230 != t238) = true := bne_iff_ne.mpr c35
                exact absurd ((Option.some.inj H).trans hr_) (by simp)
            · replace c34 := Bool.eq_false_iff.mpr c34
              subst c34
              have H1 : (some false) = some r := by rw [if_neg (show ¬ (false = true) by decide)] at H; exact H
              clear H
              have H := H1
              clear H1
              exact absurd ((Option.some.inj H).trans hr_) (by simp)
        · rw [if_neg c17] at H
          have c17i := eq_false c17
          have c17b0 : decide (a2 < a1) = false := decide_eq_false c17
          clear c17
          replace H := Option.bind_eq_some_iff.mp H
          obtain ⟨⟨t240, t241⟩, A440, H⟩ := H
          replace H : (if a1 < a2 then ((least_Since.f kj5 l0 (wrap64 (a2)) a3).bind fun bt242 => ((sawtoothref08_Least.f kj5 l0 (wrap64 (a3 - (wrap64 (a1)))) a3).bind fun bt244 => (if t228 = true then (if t240 = bt244.1 then (if (t241 == bt244.2) = true then (if t241 = true then (if bt242.2 = true then (if bt242.1 ≤ t240 then (some true) else (some false)) else (some false)) else (some true)) else (some false)) else (some false)) else (some false)))) else ((least_Since.f kj5 l0 (wrap64 (a1)) a3).bind fun bt246 => ((sawtoothref08_Least.f kj5 l0 (wrap64 (a3 - (wrap64 (a1)))) a3).bind fun bt248 => (if t228 = true then (if t240 = bt248.1 then (if (t241 == bt248.2) = true then (if t241 = true then (if bt246.2 = true then (if bt246.1 ≤ t240 then (some true) else (some false)) else (some false)) else (some true)) else (some false)) else (some false)) else (some false))))) = some r := H
          have A44 := Aside0.mk A440
          clear A440
          by_cases c45 : a1 < a2
          · rw [if_pos c45] at H
            have c45i := eq_true c45
            have c45b0 : decide (a1 < a2) = true := decide_eq_true c45
            clear c45
            replace H := Option.bind_eq_some_iff.mp H
            obtain ⟨⟨t242, t243⟩, A460, H⟩ := H
            replace H : ((sawtoothref08_Least.f kj5 l0 (wrap64 (a3 - (wrap64 (a1)))) a3).bind fun bt244 => (if t228 = true then (if t240 = bt244.1 then (if (t241 == bt244.2) = true then (if t241 = true then (if t243 = true then (if t242 ≤ t240 then (some true) else (some false)) else (some false)) else (some true)) else (some false)) else (some false)) else (some false))) = some r := H
            have A46 := Aside0.mk A460
            clear A460
            replace H := Option.bind_eq_some_iff.mp H
            obtain ⟨⟨t244, t245⟩, A470, H⟩ := H
            replace H : (if t228 = true then (if t240 = t244 then (if (t241 == t245) = true then (if t241 = true then (if t243 = true then (if t242 ≤ t240 then (some true) else (some false)) else (some false)) else (some true)) else (some false)) else (some false)) else (some false)) = some r := H
            have A47 := Aside0.mk A470
            clear A470
            by_cases c48 : t228 = true
            · subst c48
              have H1 : (if t240 = t244 then (if (t241 == t245) = true then (if t241 = true then (if t243 = true then (if t242 ≤ t240 then (some true) else (some false)) else (some false)) else (some true)) else (some false)) else (some false)) = some r := by rw [if_pos rfl] at H; exact H
              clear H
              have H := H1
              clear H1
              by_cases c49 : t240 = t244
              · rw [if_pos c49] at H
                have c49b0 : (t240 == t244) = true := beq_iff_eq.mpr c49
                have c49b1 : (t240 != t244) = false := bne_eq_false_iff_eq.mpr c49
                clear c49
                by_cases c50 : (t241 == t245) = true
                · rw [if_pos c50] at H
                  have c50b0 : (t241 == t245) = true := c50
                  (try (have c50b1 : decide (t241 = t245) = true := by simpa using c50))
                  (try (have c50b2 : (t241 == t245) = true := by simpa using c50))
                  clear c50
                  by_cases c51 : t241 = true
                  · subst c51
                    have H1 : (if t243 = true then (if t242 ≤ t240 then (some true) else (some false)) else (some false)) = some r := by rw [if_pos rfl] at H; exact H
                    clear H
                    have H := H1
                    clear H1
                    by_cases c52 : t243 = true
                    · subst c52
                      have H1 : (if t242 ≤ t240 then (some true) else (some false)) = some r := by rw [if_pos rfl] at H; exact H
                      clear H
                      have H := H1
                      clear H1
                      by_cases c53 : t242 ≤ t240
                      · rw [if_pos c53] at H
                        have c53b0 : decide (t242 ≤ t240) = true := decide_eq_true c53
                        clear c53
                        obtain rfl := Option.some.inj H
                        go_wp2_with (first | ((with_reducible refine gate_callee (f := 15) rfl ?_); refine goesL_ (some 41) rfl rfl Try.func15 (by kernel_rfl) rfl #[.slice A0 l0.length c0, .int .i64 (wrap64 (a1)), .int .i64 a3] rfl (by (try simp only [List.map_toArray, List.map_cons, List.map_nil]); first | done | rfl | (simp only [List.length_drop, List.length_take]; rfl)) ?_; (with_reducible refine (least_Since.calls kj5 _ _ l0 (wrap64 (a1)) a3 t240 true _ ?side1 ?side2 A44.out).mono ?_); (case side1 => repeat (first | exact (Kd.C_below HR0.out HB.out) | (with_reducible refine Kd.C_alloc ?_ _) | (with_reducible refine Kd.C_drewN ?_ _) | (with_reducible refine Kd.C_drew ?_))); (case side2 => exact HC0.out); rintro e w54 ⟨rfl, hb⟩; refine ⟨_, rfl, ?_⟩; have n0_ := Aside0.mk (below_step (by repeat (first | (with_reducible first | exact HB.out | apply below_alloc | apply pw_below_drewN | apply below_drew1) | exact HB.out)) hb); clear HB; have HB := n0_; clear n0_; (try clear hb); (try clear hb2); (try clear hk); (try clear hi)) | ((with_reducible refine gate_callee (f := 15) rfl ?_); refine goesL_ (some 51) rfl rfl Try.func15 (by kernel_rfl) rfl #[.slice A0 l0.length c0, .int .i64 (wrap64 (a2)), .int .i64 a3] rfl (by (try simp only [List.map_toArray, List.map_cons, List.map_nil]); first | done | rfl | (simp only [List.length_drop, List.length_take]; rfl)) ?_; (with_reducible refine (least_Since.calls kj5 _ _ l0 (wrap64 (a2)) a3 t242 true _ ?side1 ?side2 A46.out).mono ?_); (case side1 => repeat (first | exact (Kd.C_below HR0.out HB.out) | (with_reducible refine Kd.C_alloc ?_ _) | (with_reducible refine Kd.C_drewN ?_ _) | (with_reducible refine Kd.C_drew ?_))); (case side2 => exact HC0.out); rintro e w55 ⟨rfl, hb⟩; refine ⟨_, rfl, ?_⟩; have n0_ := Aside0.mk (below_step (by repeat (first | (with_reducible first | exact HB.out | apply below_alloc | apply pw_below_drewN | apply below_drew1) | exact HB.out)) hb); clear HB; have HB := n0_; clear n0_; (try clear hb); (try clear hb2); (try clear hk); (try clear hi)) | ((with_reducible refine gate_callee (f := 19) rfl ?_); refine goesL_ (some 63) rfl rfl Try.func19 (by kernel_rfl) rfl #[.slice A0 l0.length c0, .int .i64 (wrap64 (a3 - (wrap64 (a1)))), .int .i64 a3] rfl (by (try simp only [List.map_toArray, List.map_cons, List.map_nil]); first | done | rfl | (simp only [List.length_drop, List.length_take]; rfl)) ?_; (with_reducible refine (sawtoothref08_Least.calls kj5 _ _ l0 (wrap64 (a3 - (wrap64 (a1)))) a3 t244 t245 _ ?side1 ?side2 A47.out).mono ?_); (case side1 => repeat (first | exact (Kd.C_below HR0.out HB.out) | (with_reducible refine Kd.C_alloc ?_ _) | (with_reducible refine Kd.C_drewN ?_ _) | (with_reducible refine Kd.C_drew ?_))); (case side2 => exact HC0.out); rintro e w' ⟨rfl, ⟨nd, rfl⟩⟩; refine ⟨_, rfl, ?_⟩))
                        go_ret
                        exact ⟨by first | rfl | (simp [errW_none, errW_some] <;> rfl) | (simp [*, errW_none, errW_some] <;> rfl), by repeat (first | (with_reducible first | exact HB.out | apply below_alloc | apply pw_below_drewN | apply below_drew1) | exact HB.out)⟩
                      · rw [if_neg c53] at H
                        have c53b0 : decide (t242 ≤ t240) = false := decide_eq_false c53
                        clear c53
                        exact absurd ((Option.some.inj H).trans hr_) (by simp)
                    · replace c52 := Bool.eq_false_iff.mpr c52
                      subst c52
                      have H1 : (some false) = some r := by rw [if_neg (show ¬ (false = true) by decide)] at H; exact H
                      clear H
                      have H := H1
                      clear H1
                      exact absurd ((Option.some.inj H).trans hr_) (by simp)
                  · replace c51 := Bool.eq_false_iff.mpr c51
                    subst c51
                    have H1 : (some true) = some r := by rw [if_neg (show ¬ (false = true) by decide)] at H; exact H
                    clear H
                    have H := H1
                    clear H1
                    obtain rfl := Option.some.inj H
                    go_wp2_with (first | ((with_reducible refine gate_callee (f := 15) rfl ?_); refine goesL_ (some 41) rfl rfl Try.func15 (by kernel_rfl) rfl #[.slice A0 l0.length c0, .int .i64 (wrap64 (a1)), .int .i64 a3] rfl (by (try simp only [List.map_toArray, List.map_cons, List.map_nil]); first | done | rfl | (simp only [List.length_drop, List.length_take]; rfl)) ?_; (with_reducible refine (least_Since.calls kj5 _ _ l0 (wrap64 (a1)) a3 t240 false _ ?side1 ?side2 A44.out).mono ?_); (case side1 => repeat (first | exact (Kd.C_below HR0.out HB.out) | (with_reducible refine Kd.C_alloc ?_ _) | (with_reducible refine Kd.C_drewN ?_ _) | (with_reducible refine Kd.C_drew ?_))); (case side2 => exact HC0.out); rintro e w56 ⟨rfl, hb⟩; refine ⟨_, rfl, ?_⟩; have n0_ := Aside0.mk (below_step (by repeat (first | (with_reducible first | exact HB.out | apply below_alloc | apply pw_below_drewN | apply below_drew1) | exact HB.out)) hb); clear HB; have HB := n0_; clear n0_; (try clear hb); (try clear hb2); (try clear hk); (try clear hi)) | ((with_reducible refine gate_callee (f := 15) rfl ?_); refine goesL_ (some 51) rfl rfl Try.func15 (by kernel_rfl) rfl #[.slice A0 l0.length c0, .int .i64 (wrap64 (a2)), .int .i64 a3] rfl (by (try simp only [List.map_toArray, List.map_cons, List.map_nil]); first | done | rfl | (simp only [List.length_drop, List.length_take]; rfl)) ?_; (with_reducible refine (least_Since.calls kj5 _ _ l0 (wrap64 (a2)) a3 t242 t243 _ ?side1 ?side2 A46.out).mono ?_); (case side1 => repeat (first | exact (Kd.C_below HR0.out HB.out) | (with_reducible refine Kd.C_alloc ?_ _) | (with_reducible refine Kd.C_drewN ?_ _) | (with_reducible refine Kd.C_drew ?_))); (case side2 => exact HC0.out); rintro e w57 ⟨rfl, hb⟩; refine ⟨_, rfl, ?_⟩; have n0_ := Aside0.mk (below_step (by repeat (first | (with_reducible first | exact HB.out | apply below_alloc | apply pw_below_drewN | apply below_drew1) | exact HB.out)) hb); clear HB; have HB := n0_; clear n0_; (try clear hb); (try clear hb2); (try clear hk); (try clear hi)) | ((with_reducible refine gate_callee (f := 19) rfl ?_); refine goesL_ (some 63) rfl rfl Try.func19 (by kernel_rfl) rfl #[.slice A0 l0.length c0, .int .i64 (wrap64 (a3 - (wrap64 (a1)))), .int .i64 a3] rfl (by (try simp only [List.map_toArray, List.map_cons, List.map_nil]); first | done | rfl | (simp only [List.length_drop, List.length_take]; rfl)) ?_; (with_reducible refine (sawtoothref08_Least.calls kj5 _ _ l0 (wrap64 (a3 - (wrap64 (a1)))) a3 t244 t245 _ ?side1 ?side2 A47.out).mono ?_); (case side1 => repeat (first | exact (Kd.C_below HR0.out HB.out) | (with_reducible refine Kd.C_alloc ?_ _) | (with_reducible refine Kd.C_drewN ?_ _) | (with_reducible refine Kd.C_drew ?_))); (case side2 => exact HC0.out); rintro e w' ⟨rfl, ⟨nd, rfl⟩⟩; refine ⟨_, rfl, ?_⟩))
                    go_ret
                    exact ⟨by first | rfl | (simp [errW_none, errW_some] <;> rfl) | (simp [*, errW_none, errW_some] <;> rfl), by repeat (first | (with_reducible first | exact HB.out | apply below_alloc | apply pw_below_drewN | apply below_drew1) | exact HB.out)⟩
                · rw [if_neg c50] at H
                  have c50b0 : (t241 == t245) = false := by simpa using c50
                  (try (have c50b1 : decide (t241 = t245) = false := by simpa using c50))
                  (try (have c50b2 : (t241 == t245) = false := by simpa using c50))
                  (try (have c50b3 : ¬ (t241 = t245) := by simpa using c50))
                  clear c50
                  exact absurd ((Option.some.inj H).trans hr_) (by simp)
              · rw [if_neg c49] at H
                have c49b0 : (t240 == t244) = false := beq_eq_false_iff_ne.mpr c49
                have c49b1 : (t240 != t244) = true := bne_iff_ne.mpr c49
                exact absurd ((Option.some.inj H).trans hr_) (by simp)
            · replace c48 := Bool.eq_false_iff.mpr c48
              subst c48
              have H1 : (some false) = some r := by rw [if_neg (show ¬ (false = true) by decide)] at H; exact H
              clear H
              have H := H1
              clear H1
              exact absurd ((Option.some.inj H).trans hr_) (by simp)
          · rw [if_neg c45] at H
            have c45i := eq_false c45
            have c45b0 : decide (a1 < a2) = false := decide_eq_false c45
            clear c45
            replace H := Option.bind_eq_some_iff.mp H
            obtain ⟨⟨t246, t247⟩, A580, H⟩ := H
            replace H : ((sawtoothref08_Least.f kj5 l0 (wrap64 (a3 - (wrap64 (a1)))) a3).bind fun bt248 => (if t228 = true then (if t240 = bt248.1 then (if (t241 == bt248.2) = true then (if t241 = true then (if t247 = true then (if t246 ≤ t240 then (some true) else (some false)) else (some false)) else (some true)) else (some false)) else (some false)) else (some false))) = some r := H
            have A58 := Aside0.mk A580
            clear A580
            have e_ := Option.some.inj (A44.out.symm.trans A58.out)
            simp only [Prod.mk.injEq] at e_
            obtain ⟨rfl, rfl⟩ := e_
            replace H : ((sawtoothref08_Least.f kj5 l0 (wrap64 (a3 - (wrap64 (a1)))) a3).bind fun bt248 => (if t228 = true then (if t240 = bt248.1 then (if (t241 == bt248.2) = true then (if t241 = true then (if t241 = true then (if t240 ≤ t240 then (some true) else (some false)) else (some false)) else (some true)) else (some false)) else (some false)) else (some false))) = some r := H
            replace H := Option.bind_eq_some_iff.mp H
            obtain ⟨⟨t248, t249⟩, A590, H⟩ := H
            replace H : (if t228 = true then (if t240 = t248 then (if (t241 == t249) = true then (if t241 = true then (if t241 = true then (if t240 ≤ t240 then (some true) else (some false)) else (some false)) else (some true)) else (some false)) else (some false)) else (some false)) = some r := H
            have A59 := Aside0.mk A590
            clear A590
            by_cases c60 : t228 = true
            · subst c60
              have H1 : (if t240 = t248 then (if (t241 == t249) = true then (if t241 = true then (if t241 = true then (if t240 ≤ t240 then (some true) else (some false)) else (some false)) else (some true)) else (some false)) else (some false)) = some r := by rw [if_pos rfl] at H; exact H
              clear H
              have H := H1
              clear H1
              by_cases c61 : t240 = t248
              · rw [if_pos c61] at H
                have c61b0 : (t240 == t248) = true := beq_iff_eq.mpr c61
                have c61b1 : (t240 != t248) = false := bne_eq_false_iff_eq.mpr c61
                clear c61
                by_cases c62 : (t241 == t249) = true
                · rw [if_pos c62] at H
                  have c62b0 : (t241 == t249) = true := c62
                  (try (have c62b1 : decide (t241 = t249) = true := by simpa using c62))
                  (try (have c62b2 : (t241 == t249) = true := by simpa using c62))
                  clear c62
                  by_cases c63 : t241 = true
                  · subst c63
                    have H1 : (if true = true then (if t240 ≤ t240 then (some true) else (some false)) else (some false)) = some r := by rw [if_pos rfl] at H; exact H
                    clear H
                    have H := H1
                    clear H1
                    by_cases c64 : true = true
                    · skip
                      have H1 : (if t240 ≤ t240 then (some true) else (some false)) = some r := by rw [if_pos rfl] at H; exact H
                      clear H
                      have H := H1
                      clear H1
                      by_cases c65 : t240 ≤ t240
                      · rw [if_pos c65] at H
                        have c65b0 : decide (t240 ≤ t240) = true := decide_eq_true c65
                        clear c65
                        obtain rfl := Option.some.inj H
                        go_wp2_with (first | ((with_reducible refine gate_callee (f := 15) rfl ?_); refine goesL_ (some 41) rfl rfl Try.func15 (by kernel_rfl) rfl #[.slice A0 l0.length c0, .int .i64 (wrap64 (a1)), .int .i64 a3] rfl (by (try simp only [List.map_toArray, List.map_cons, List.map_nil]); first | done | rfl | (simp only [List.length_drop, List.length_take]; rfl)) ?_; (with_reducible refine (least_Since.calls kj5 _ _ l0 (wrap64 (a1)) a3 t240 true _ ?side1 ?side2 A44.out).mono ?_); (case side1 => repeat (first | exact (Kd.C_below HR0.out HB.out) | (with_reducible refine Kd.C_alloc ?_ _) | (with_reducible refine Kd.C_drewN ?_ _) | (with_reducible refine Kd.C_drew ?_))); (case side2 => exact HC0.out); rintro e w66 ⟨rfl, hb⟩; refine ⟨_, rfl, ?_⟩; have n0_ := Aside0.mk (below_step (by repeat (first | (with_reducible first | exact HB.out | apply below_alloc | apply pw_below_drewN | apply below_drew1) | exact HB.out)) hb); clear HB; have HB := n0_; clear n0_; (try clear hb); (try clear hb2); (try clear hk); (try clear hi)) | ((with_reducible refine gate_callee (f := 15) rfl ?_); refine goesL_ (some 51) rfl rfl Try.func15 (by kernel_rfl) rfl #[.slice A0 l0.length c0, .int .i64 (wrap64 (a1)), .int .i64 a3] rfl (by (try simp only [List.map_toArray, List.map_cons, List.map_nil]); first | done | rfl | (simp only [List.length_drop, List.length_take]; rfl)) ?_; (with_reducible refine (least_Since.calls kj5 _ _ l0 (wrap64 (a1)) a3 t240 true _ ?side1 ?side2 A58.out).mono ?_); (case side1 => repeat (first | exact (Kd.C_below HR0.out HB.out) | (with_reducible refine Kd.C_alloc ?_ _) | (with_reducible refine Kd.C_drewN ?_ _) | (with_reducible refine Kd.C_drew ?_))); (case side2 => exact HC0.out); rintro e w67 ⟨rfl, hb⟩; refine ⟨_, rfl, ?_⟩; have n0_ := Aside0.mk (below_step (by repeat (first | (with_reducible first | exact HB.out | apply below_alloc | apply pw_below_drewN | apply below_drew1) | exact HB.out)) hb); clear HB; have HB := n0_; clear n0_; (try clear hb); (try clear hb2); (try clear hk); (try clear hi)) | ((with_reducible refine gate_callee (f := 19) rfl ?_); refine goesL_ (some 63) rfl rfl Try.func19 (by kernel_rfl) rfl #[.slice A0 l0.length c0, .int .i64 (wrap64 (a3 - (wrap64 (a1)))), .int .i64 a3] rfl (by (try simp only [List.map_toArray, List.map_cons, List.map_nil]); first | done | rfl | (simp only [List.length_drop, List.length_take]; rfl)) ?_; (with_reducible refine (sawtoothref08_Least.calls kj5 _ _ l0 (wrap64 (a3 - (wrap64 (a1)))) a3 t248 t249 _ ?side1 ?side2 A59.out).mono ?_); (case side1 => repeat (first | exact (Kd.C_below HR0.out HB.out) | (with_reducible refine Kd.C_alloc ?_ _) | (with_reducible refine Kd.C_drewN ?_ _) | (with_reducible refine Kd.C_drew ?_))); (case side2 => exact HC0.out); rintro e w' ⟨rfl, ⟨nd, rfl⟩⟩; refine ⟨_, rfl, ?_⟩))
                        go_ret
                        exact ⟨by first | rfl | (simp [errW_none, errW_some] <;> rfl) | (simp [*, errW_none, errW_some] <;> rfl), by repeat (first | (with_reducible first | exact HB.out | apply below_alloc | apply pw_below_drewN | apply below_drew1) | exact HB.out)⟩
                      · rw [if_neg c65] at H
                        have c65b0 : decide (t240 ≤ t240) = false := decide_eq_false c65
                        clear c65
                        exact absurd ((Option.some.inj H).trans hr_) (by simp)
                    · exact absurd rfl c64
                  · replace c63 := Bool.eq_false_iff.mpr c63
                    subst c63
                    have H1 : (some true) = some r := by rw [if_neg (show ¬ (false = true) by decide)] at H; exact H
                    clear H
                    have H := H1
                    clear H1
                    obtain rfl := Option.some.inj H
                    go_wp2_with (first | ((with_reducible refine gate_callee (f := 15) rfl ?_); refine goesL_ (some 41) rfl rfl Try.func15 (by kernel_rfl) rfl #[.slice A0 l0.length c0, .int .i64 (wrap64 (a1)), .int .i64 a3] rfl (by (try simp only [List.map_toArray, List.map_cons, List.map_nil]); first | done | rfl | (simp only [List.length_drop, List.length_take]; rfl)) ?_; (with_reducible refine (least_Since.calls kj5 _ _ l0 (wrap64 (a1)) a3 t240 false _ ?side1 ?side2 A44.out).mono ?_); (case side1 => repeat (first | exact (Kd.C_below HR0.out HB.out) | (with_reducible refine Kd.C_alloc ?_ _) | (with_reducible refine Kd.C_drewN ?_ _) | (with_reducible refine Kd.C_drew ?_))); (case side2 => exact HC0.out); rintro e w68 ⟨rfl, hb⟩; refine ⟨_, rfl, ?_⟩; have n0_ := Aside0.mk (below_step (by repeat (first | (with_reducible first | exact HB.out | apply below_alloc | apply pw_below_drewN | apply below_drew1) | exact HB.out)) hb); clear HB; have HB := n0_; clear n0_; (try clear hb); (try clear hb2); (try clear hk); (try clear hi)) | ((with_reducible refine gate_callee (f := 15) rfl ?_); refine goesL_ (some 51) rfl rfl Try.func15 (by kernel_rfl) rfl #[.slice A0 l0.length c0, .int .i64 (wrap64 (a1)), .int .i64 a3] rfl (by (try simp only [List.map_toArray, List.map_cons, List.map_nil]); first | done | rfl | (simp only [List.length_drop, List.length_take]; rfl)) ?_; (with_reducible refine (least_Since.calls kj5 _ _ l0 (wrap64 (a1)) a3 t240 false _ ?side1 ?side2 A58.out).mono ?_); (case side1 => repeat (first | exact (Kd.C_below HR0.out HB.out) | (with_reducible refine Kd.C_alloc ?_ _) | (with_reducible refine Kd.C_drewN ?_ _) | (with_reducible refine Kd.C_drew ?_))); (case side2 => exact HC0.out); rintro e w69 ⟨rfl, hb⟩; refine ⟨_, rfl, ?_⟩; have n0_ := Aside0.mk (below_step (by repeat (first | (with_reducible first | exact HB.out | apply below_alloc | apply pw_below_drewN | apply below_drew1) | exact HB.out)) hb); clear HB; have HB := n0_; clear n0_; (try clear hb); (try clear hb2); (try clear hk); (try clear hi)) | ((with_reducible refine gate_callee (f := 19) rfl ?_); refine goesL_ (some 63) rfl rfl Try.func19 (by kernel_rfl) rfl #[.slice A0 l0.length c0, .int .i64 (wrap64 (a3 - (wrap64 (a1)))), .int .i64 a3] rfl (by (try simp only [List.map_toArray, List.map_cons, List.map_nil]); first | done | rfl | (simp only [List.length_drop, List.length_take]; rfl)) ?_; (with_reducible refine (sawtoothref08_Least.calls kj5 _ _ l0 (wrap64 (a3 - (wrap64 (a1)))) a3 t248 t249 _ ?side1 ?side2 A59.out).mono ?_); (case side1 => repeat (first | exact (Kd.C_below HR0.out HB.out) | (with_reducible refine Kd.C_alloc ?_ _) | (with_reducible refine Kd.C_drewN ?_ _) | (with_reducible refine Kd.C_drew ?_))); (case side2 => exact HC0.out); rintro e w' ⟨rfl, ⟨nd, rfl⟩⟩; refine ⟨_, rfl, ?_⟩))
                    go_ret
                    exact ⟨by first | rfl | (simp [errW_none, errW_some] <;> rfl) | (simp [*, errW_none, errW_some] <;> rfl), by repeat (first | (with_reducible first | exact HB.out | apply below_alloc | apply pw_below_drewN | apply below_drew1) | exact HB.out)⟩
                · rw [if_neg c62] at H
                  have c62b0 : (t241 == t249) = false := by simpa using c62
                  (try (have c62b1 : decide (t241 = t249) = false := by simpa using c62))
                  (try (have c62b2 : (t241 == t249) = false := by simpa using c62))
                  (try (have c62b3 : ¬ (t241 = t249) := by simpa using c62))
                  clear c62
                  exact absurd ((Option.some.inj H).trans hr_) (by simp)
              · rw [if_neg c61] at H
                have c61b0 : (t240 == t248) = false := beq_eq_false_iff_ne.mpr c61
                have c61b1 : (t240 != t248) = true := bne_iff_ne.mpr c61
                exact absurd ((Option.some.inj H).trans hr_) (by simp)
            · replace c60 := Bool.eq_false_iff.mpr c60
              subst c60
              have H1 : (some false) = some r := by rw [if_neg (show ¬ (false = true) by decide)] at H; exact H
              clear H
              have H := H1
              clear H1
              exact absurd ((Option.some.inj H).trans hr_) (by simp)

end Go.Proofs.Ytghhjkjdeohmiaa.Hp
