/- Functions of the program as Lean functions, each with its contract: the call comes to that answer. Told by wip/tools/handprint.py of this session. -/
import Derived.Test.YtdgnhmghniloiaaHpx0
import Derived.Test.YtdgnhmghniloiaaHpx3
import Derived.Test.YtdgnhmghniloiaaHpx4
namespace Go.Proofs.Ytdgnhmghniloiaa.Hp
open Go.RowKit Go.Proofs.YtdgnhmghniloiaaW.PrintWords Go.Proofs.YtdgnhmghniloiaaW.PrintLast Go.Proofs.YtdgnhmghniloiaaW.PrintMore
attribute [local go_sem] max2_int min2_int max_two min_two max_three min_three max_four min_four   -- for this text's walks alone
set_option linter.unusedVariables false
set_option linter.unusedSimpArgs false

/-! ### sawtoothlaw01_SafeSigns: function 6 -/
mutual
def sawtoothlaw01_SafeSigns.j0 : Nat → Int → Int → Bool → Int → Bool → Option (Bool)
  | 0, _, _, _, _, _ => none
  | k + 1, x0, x1, x5, x6, x7 => if x7 = true then (if x6 = 0 then (sawtoothlaw01_SafeSigns.j1 k x0 x5 true) else (sawtoothlaw01_SafeSigns.j1 k x0 x5 false)) else (if ((decide (x0 > 0)) == (decide (x1 > 0))) = true then (if x6 > 0 then (sawtoothlaw01_SafeSigns.j1 k x0 x5 true) else (sawtoothlaw01_SafeSigns.j1 k x0 x5 false)) else (sawtoothlaw01_SafeSigns.j1 k x0 x5 (decide (x6 < 0))))
def sawtoothlaw01_SafeSigns.j1 : Nat → Int → Bool → Bool → Option (Bool)
  | 0, _, _, _ => none
  | k + 1, x0, x5, x9 => (safe_Sub.f 0 x0).bind fun t250 => (if x5 = true then (if x9 = true then ((safe_Abs.f x0).bind fun t251 => (if t251 ≥ 0 then (if x0 = (-9223372036854775808) then ((safe_Mul.f x0 1).bind fun t252 => (if t252 = x0 then ((safe_Mul.f x0 (-1)).bind fun t253 => (some (t253 == t250))) else (some false))) else ((safe_Abs.f t250).bind fun t254 => ((safe_Abs.f x0).bind fun t255 => (if t254 = t255 then ((safe_Sub.f 0 t250).bind fun t256 => (if t256 = x0 then ((safe_Mul.f x0 1).bind fun t257 => (if t257 = x0 then ((safe_Mul.f x0 (-1)).bind fun t258 => (some (t258 == t250))) else (some false))) else (some false))) else (some false))))) else (some false))) else (some false)) else (some false))
end
def sawtoothlaw01_SafeSigns.f (k : Nat) (a0 : Int) (a1 : Int) : Option (Bool) := (sawtoothlaw01_awake.f).bind fun t248 => ((safe_Mul.f a0 a1).bind fun t249 => (if a0 = 0 then (sawtoothlaw01_SafeSigns.j0 k a0 a1 t248 t249 true) else (sawtoothlaw01_SafeSigns.j0 k a0 a1 t248 t249 (a1 == 0))))
theorem sawtoothlaw01_SafeSigns.mono_l : ∀ k, (∀ y0 y1 y2 y3 y4, LeO (sawtoothlaw01_SafeSigns.j0 k y0 y1 y2 y3 y4) (sawtoothlaw01_SafeSigns.j0 (k + 1) y0 y1 y2 y3 y4)) ∧ (∀ y0 y1 y2, LeO (sawtoothlaw01_SafeSigns.j1 k y0 y1 y2) (sawtoothlaw01_SafeSigns.j1 (k + 1) y0 y1 y2))
  | 0 => ⟨fun _ _ _ _ _ r h => by simp [sawtoothlaw01_SafeSigns.j0] at h, fun _ _ _ r h => by simp [sawtoothlaw01_SafeSigns.j1] at h⟩
  | k + 1 => by
    obtain ⟨ih0, ih1⟩ := sawtoothlaw01_SafeSigns.mono_l k
    refine ⟨?_, ?_⟩
    · intro y0 y1 y2 y3 y4
      unfold sawtoothlaw01_SafeSigns.j0
      repeat' first
      | (with_reducible exact ih0 _ _ _ _ _)
      | (with_reducible exact ih1 _ _ _)
      | (with_reducible exact LeO.refl _)
      | (with_reducible exact LeO.none _)
      | (with_reducible refine LeO.ite ?_ ?_)
      | (with_reducible refine LeO.bind ?_ (fun _ => ?_))
      | exact ih0 _ _ _ _ _
      | exact ih1 _ _ _
      | exact LeO.none _
      | refine LeO.ite ?_ ?_
      | refine LeO.bind ?_ (fun _ => ?_)
    · intro y0 y1 y2
      unfold sawtoothlaw01_SafeSigns.j1
      repeat' first
      | (with_reducible exact ih0 _ _ _ _ _)
      | (with_reducible exact ih1 _ _ _)
      | (with_reducible exact LeO.refl _)
      | (with_reducible exact LeO.none _)
      | (with_reducible refine LeO.ite ?_ ?_)
      | (with_reducible refine LeO.bind ?_ (fun _ => ?_))
      | exact ih0 _ _ _ _ _
      | exact ih1 _ _ _
      | exact LeO.none _
      | refine LeO.ite ?_ ?_
      | refine LeO.bind ?_ (fun _ => ?_)
theorem sawtoothlaw01_SafeSigns.mono : ∀ a0 a1 k, LeO (sawtoothlaw01_SafeSigns.f k a0 a1) (sawtoothlaw01_SafeSigns.f (k + 1) a0 a1) := by
  intro a0 a1 k
  obtain ⟨ih0, ih1⟩ := sawtoothlaw01_SafeSigns.mono_l k
  unfold sawtoothlaw01_SafeSigns.f
  repeat' first
      | (with_reducible exact ih0 _ _ _ _ _)
      | (with_reducible exact ih1 _ _ _)
      | (with_reducible exact LeO.refl _)
      | (with_reducible exact LeO.none _)
      | (with_reducible refine LeO.ite ?_ ?_)
      | (with_reducible refine LeO.bind ?_ (fun _ => ?_))
      | exact ih0 _ _ _ _ _
      | exact ih1 _ _ _
      | exact LeO.none _
      | refine LeO.ite ?_ ?_
      | refine LeO.bind ?_ (fun _ => ?_)
set_option maxHeartbeats 8000000 in
set_option maxRecDepth 100000 in
theorem sawtoothlaw01_SafeSigns.calls (k : Nat) (a0 : Int) (a1 : Int) (r : Bool) (w : World) (h : sawtoothlaw01_SafeSigns.f k a0 a1 = some r) (hr_ : r = true) :
    Calls Try.prog 6 #[.int .i64 a0, .int .i64 a1] w fun e w' => e = .returned (.bool r) ∧ Below w.heap.size w w' := by
  have HB := Aside0.mk (Below.refl w.heap.size w)
  have H : ((sawtoothlaw01_awake.f).bind fun t248 => ((safe_Mul.f a0 a1).bind fun t249 => (if a0 = 0 then (sawtoothlaw01_SafeSigns.j0 k a0 a1 t248 t249 true) else (sawtoothlaw01_SafeSigns.j0 k a0 a1 t248 t249 (a1 == 0))))) = some r := h
  clear h
  replace H := Option.bind_eq_some_iff.mp H
  obtain ⟨t248, A30, H⟩ := H
  replace H : ((safe_Mul.f a0 a1).bind fun t249 => (if a0 = 0 then (sawtoothlaw01_SafeSigns.j0 k a0 a1 t248 t249 true) else (sawtoothlaw01_SafeSigns.j0 k a0 a1 t248 t249 (a1 == 0)))) = some r := H
  have A3 := Aside0.mk A30
  clear A30
  replace H := Option.bind_eq_some_iff.mp H
  obtain ⟨t249, A40, H⟩ := H
  replace H : (if a0 = 0 then (sawtoothlaw01_SafeSigns.j0 k a0 a1 t248 t249 true) else (sawtoothlaw01_SafeSigns.j0 k a0 a1 t248 t249 (a1 == 0))) = some r := H
  have A4 := Aside0.mk A40
  clear A40
  have HC5 := Aside0.mk H
  clear H
  go_enter Try.func6, Try.ntmps6
  go_upto_region 3 with (first | ((with_reducible refine gate_callee (f := 9) rfl ?_); refine goesL_ (some 11) rfl rfl Try.func9 (by kernel_rfl) rfl #[] rfl (by (try simp only [List.map_toArray, List.map_cons, List.map_nil]); first | done | rfl | (simp only [List.length_drop, List.length_take]; rfl)) ?_; (with_reducible refine (sawtoothlaw01_awake.calls  t248 _ A3.out).mono ?_); rintro e w6 ⟨rfl, hb⟩; refine ⟨_, rfl, ?_⟩; have n0_ := Aside0.mk (below_step (by repeat (first | (with_reducible first | exact HB.out | apply below_alloc | apply pw_below_drewN | apply below_drew1) | exact HB.out)) hb); clear HB; have HB := n0_; clear n0_; (try clear hb); (try clear hb2); (try clear hk); (try clear hi)) | ((with_reducible refine gate_callee (f := 18) rfl ?_); refine goesL_ (some 14) rfl rfl Try.func18 (by kernel_rfl) rfl #[.int .i64 a0, .int .i64 a1] rfl (by (try simp only [List.map_toArray, List.map_cons, List.map_nil]); first | done | rfl | (simp only [List.length_drop, List.length_take]; rfl)) ?_; (with_reducible refine (safe_Mul.calls a0 a1 t249 _ A4.out).mono ?_); rintro e w7 ⟨rfl, hb⟩; refine ⟨_, rfl, ?_⟩; have n0_ := Aside0.mk (below_step (by repeat (first | (with_reducible first | exact HB.out | apply below_alloc | apply pw_below_drewN | apply below_drew1) | exact HB.out)) hb); clear HB; have HB := n0_; clear n0_; (try clear hb); (try clear hb2); (try clear hk); (try clear hi)))
  (try simp only [Act.put, List.setIfInBounds_toArray, List.set_cons_zero, List.set_cons_succ])
  go_cut [7] (fun v7 wc => ∃ (kq : Nat) (x7_4 : Bool), v7 = .bool x7_4 ∧ Aside0 (sawtoothlaw01_SafeSigns.j0 kq a0 a1 t248 t249 x7_4 = some r) ∧ Aside0 (kq ≤ k) ∧ Aside0 (Below w.heap.size w wc))
  case first =>
    have H := HC5.out
    clear HC5
    by_cases c8 : a0 = 0
    · rw [if_pos c8] at H
      have c8b0 : (a0 == 0) = true := beq_iff_eq.mpr c8
      have c8b1 : (a0 != 0) = false := bne_eq_false_iff_eq.mpr c8
      clear c8
      (first | rw [c8b0] | (simp only [i64_w, i32_w]; rw [c8b0]) | skip)
      have H' := Aside0.mk H
      clear H
      go_wp2
      go_meet
      case rel => exact ⟨_, (true), (by first | rfl | (simp; done) | (simp [*]; done)), H', ⟨by first | omega | exact Nat.le_refl _⟩, ⟨by repeat (first | (with_reducible first | exact HB.out | apply below_alloc | apply pw_below_drewN | apply below_drew1) | exact HB.out)⟩⟩
    · rw [if_neg c8] at H
      have c8b0 : (a0 == 0) = false := beq_eq_false_iff_ne.mpr c8
      have c8b1 : (a0 != 0) = true := bne_iff_ne.mpr c8
      (first | rw [c8b0] | (simp only [i64_w, i32_w]; rw [c8b0]) | skip)
      have H' := Aside0.mk H
      clear H
      go_wp2
      go_meet
      case rel => exact ⟨_, ((a1 == 0)), (by first | rfl | (simp; done) | (simp [*]; done)), H', ⟨by first | omega | exact Nat.le_refl _⟩, ⟨by repeat (first | (with_reducible first | exact HB.out | apply below_alloc | apply pw_below_drewN | apply below_drew1) | exact HB.out)⟩⟩
  case rest =>
    clear HC5
    try clear c1
    try clear p2
    try clear c6
    try clear c8
    try clear c8b0
    try clear c8b1
    obtain ⟨kq, x7_4, rfl, HA, HJ4, HB⟩ := hcut
    cases kq with
    | zero => exact absurd HA.out (by simp [sawtoothlaw01_SafeSigns.j0])
    | succ kj4 =>
      have H := HA.out
      clear HA
      simp only [sawtoothlaw01_SafeSigns.j0] at H
      have HC9 := Aside0.mk H
      clear H
      go_upto_region 5 with (fail)
      go_cut [9] (fun v9 wc => ∃ (kq : Nat) (x9_8 : Bool), v9 = .bool x9_8 ∧ Aside0 (sawtoothlaw01_SafeSigns.j1 kq a0 t248 x9_8 = some r) ∧ Aside0 (kq ≤ kj4) ∧ Aside0 (Below w.heap.size w wc))
      case first =>
        have H := HC9.out
        clear HC9
        by_cases c10 : x7_4 = true
        · subst c10
          have H1 : (if t249 = 0 then (sawtoothlaw01_SafeSigns.j1 kj4 a0 t248 true) else (sawtoothlaw01_SafeSigns.j1 kj4 a0 t248 false)) = some r := by rw [if_pos rfl] at H; exact H
          clear H
          have H := H1
          clear H1
          by_cases c11 : t249 = 0
          · rw [if_pos c11] at H
            have c11b0 : (t249 == 0) = true := beq_iff_eq.mpr c11
            have c11b1 : (t249 != 0) = false := bne_eq_false_iff_eq.mpr c11
            clear c11
            (first | rw [c11b0] | (simp only [i64_w, i32_w]; rw [c11b0]) | skip)
            have H' := Aside0.mk H
            clear H
            go_wp2
            go_meet
            case rel => exact ⟨_, (true), (by first | rfl | (simp; done) | (simp [*]; done)), H', ⟨by have := HJ4.out; first | omega | exact Nat.le_refl _⟩, ⟨by repeat (first | (with_reducible first | exact HB.out | apply below_alloc | apply pw_below_drewN | apply below_drew1) | exact HB.out)⟩⟩
          · rw [if_neg c11] at H
            have c11b0 : (t249 == 0) = false := beq_eq_false_iff_ne.mpr c11
            have c11b1 : (t249 != 0) = true := bne_iff_ne.mpr c11
            (first | rw [c11b0] | (simp only [i64_w, i32_w]; rw [c11b0]) | skip)
            have H' := Aside0.mk H
            clear H
            go_wp2
            go_meet
            case rel => exact ⟨_, (false), (by first | rfl | (simp; done) | (simp [*]; done)), H', ⟨by have := HJ4.out; first | omega | exact Nat.le_refl _⟩, ⟨by repeat (first | (with_reducible first | exact HB.out | apply below_alloc | apply pw_below_drewN | apply below_drew1) | exact HB.out)⟩⟩
        · replace c10 := Bool.eq_false_iff.mpr c10
          subst c10
          have H1 : (if ((decide (a0 > 0)) == (decide (a1 > 0))) = true then (if t249 > 0 then (sawtoothlaw01_SafeSigns.j1 kj4 a0 t248 true) else (sawtoothlaw01_SafeSigns.j1 kj4 a0 t248 false)) else (sawtoothlaw01_SafeSigns.j1 kj4 a0 t248 (decide (t249 < 0)))) = some r := by rw [if_neg (show ¬ (false = true) by decide)] at H; exact H
          clear H
          have H := H1
          clear H1
          by_cases c12 : ((decide (a0 > 0)) == (decide (a1 > 0))) = true
          · rw [if_pos c12] at H
            have c12b0 : ((decide (a0 > 0)) == (decide (a1 > 0))) = true := c12
            (try (have c12b1 : decide ((decide (a0 > 0)) = (decide (a1 > 0))) = true := by simpa using c12))
            (try (have c12b2 : ((decide (a0 > 0)) == (decide (a1 > 0))) = true := by simpa using c12))
            clear c12
            by_cases c13 : t249 > 0
            · rw [if_pos c13] at H
              have c13b0 : decide (0 < t249) = true := decide_eq_true c13
              clear c13
              have H' := Aside0.mk H
              clear H
              go_wp2
              go_meet
              case rel => exact ⟨_, (true), (by first | rfl | (simp; done) | (simp [*]; done)), H', ⟨by have := HJ4.out; first | omega | exact Nat.le_refl _⟩, ⟨by repeat (first | (with_reducible first | exact HB.out | apply below_alloc | apply pw_below_drewN | apply below_drew1) | exact HB.out)⟩⟩
            · rw [if_neg c13] at H
              have c13b0 : decide (0 < t249) = false := decide_eq_false c13
              clear c13
              have H' := Aside0.mk H
              clear H
              go_wp2
              go_meet
              case rel => exact ⟨_, (false), (by first | rfl | (simp; done) | (simp [*]; done)), H', ⟨by have := HJ4.out; first | omega | exact Nat.le_refl _⟩, ⟨by repeat (first | (with_reducible first | exact HB.out | apply below_alloc | apply pw_below_drewN | apply below_drew1) | exact HB.out)⟩⟩
          · rw [if_neg c12] at H
            have c12b0 : ((decide (a0 > 0)) == (decide (a1 > 0))) = false := by simpa using c12
            (try (have c12b1 : decide ((decide (a0 > 0)) = (decide (a1 > 0))) = false := by simpa using c12))
            (try (have c12b2 : ((decide (a0 > 0)) == (decide (a1 > 0))) = false := by simpa using c12))
            (try (have c12b3 : ¬ ((decide (a0 > 0)) = (decide (a1 > 0))) := by simpa using c12))
            clear c12
            have H' := Aside0.mk H
            clear H
            go_wp2
            go_meet
            case rel => exact ⟨_, (decide (t249 < 0)), (by first | rfl | (simp; done) | (simp [*]; done)), H', ⟨by have := HJ4.out; first | omega | exact Nat.le_refl _⟩, ⟨by repeat (first | (with_reducible first | exact HB.out | apply below_alloc | apply pw_below_drewN | apply below_drew1) | exact HB.out)⟩⟩
      case rest =>
        clear HC9
        try clear c1
        try clear p2
        try clear c6
        try clear c8
        try clear c8b0
        try clear c8b1
        try clear c9
        try clear c10
        try clear c11
        try clear c11b0
        try clear c11b1
        try clear c12
        try clear c12b0
        try clear c12b1
        try clear c12b2
        try clear c13
        try clear c13b0
        try clear p2
        obtain ⟨kq, x9_8, rfl, HA, HJ8, HB⟩ := hcut
        cases kq with
        | zero => exact absurd HA.out (by simp [sawtoothlaw01_SafeSigns.j1])
        | succ kj8 =>
          have H := HA.out
          clear HA
          simp only [sawtoothlaw01_SafeSigns.j1] at H
          replace H := Option.bind_eq_some_iff.mp H
          obtain ⟨t250, A140, H⟩ := H
          replace H : (if t248 = true then (if x9_8 = true then ((safe_Abs.f a0).bind fun t251 => (if t251 ≥ 0 then (if a0 = (-9223372036854775808) then ((safe_Mul.f a0 1).bind fun t252 => (if t252 = a0 then ((safe_Mul.f a0 (-1)).bind fun t253 => (some (t253 == t250))) else (some false))) else ((safe_Abs.f t250).bind fun t254 => ((safe_Abs.f a0).bind fun t255 => (if t254 = t255 then ((safe_Sub.f 0 t250).bind fun t256 => (if t256 = a0 then ((safe_Mul.f a0 1).bind fun t257 => (if t257 = a0 then ((safe_Mul.f a0 (-1)).bind fun t258 => (some (t258 == t250))) else (some false))) else (some false))) else (some false))))) else (some false))) else (some false)) else (some false)) = some r := H
          have A14 := Aside0.mk A140
          clear A140
          by_cases c15 : t248 = true
          · subst c15
            have H1 : (if x9_8 = true then ((safe_Abs.f a0).bind fun t251 => (if t251 ≥ 0 then (if a0 = (-9223372036854775808) then ((safe_Mul.f a0 1).bind fun t252 => (if t252 = a0 then ((safe_Mul.f a0 (-1)).bind fun t253 => (some (t253 == t250))) else (some false))) else ((safe_Abs.f t250).bind fun t254 => ((safe_Abs.f a0).bind fun t255 => (if t254 = t255 then ((safe_Sub.f 0 t250).bind fun t256 => (if t256 = a0 then ((safe_Mul.f a0 1).bind fun t257 => (if t257 = a0 then ((safe_Mul.f a0 (-1)).bind fun t258 => (some (t258 == t250))) else (some false))) else (some false))) else (some false))))) else (some false))) else (some false)) = some r := by rw [if_pos rfl] at H; exact H
            clear H
            have H := H1
            clear H1
            by_cases c16 : x9_8 = true
            · subst c16
              have H1 : ((safe_Abs.f a0).bind fun t251 => (if t251 ≥ 0 then (if a0 = (-9223372036854775808) then ((safe_Mul.f a0 1).bind fun t252 => (if t252 = a0 then ((safe_Mul.f a0 (-1)).bind fun t253 => (some (t253 == t250))) else (some false))) else ((safe_Abs.f t250).bind fun t254 => ((safe_Abs.f a0).bind fun t255 => (if t254 = t255 then ((safe_Sub.f 0 t250).bind fun t256 => (if t256 = a0 then ((safe_Mul.f a0 1).bind fun t257 => (if t257 = a0 then ((safe_Mul.f a0 (-1)).bind fun t258 => (some (t258 == t250))) else (some false))) else (some false))) else (some false))))) else (some false))) = some r := by rw [if_pos rfl] at H; exact H
              clear H
              have H := H1
              clear H1
              replace H := Option.bind_eq_some_iff.mp H
              obtain ⟨t251, A170, H⟩ := H
              replace H : (if t251 ≥ 0 then (if a0 = (-9223372036854775808) then ((safe_Mul.f a0 1).bind fun t252 => (if t252 = a0 then ((safe_Mul.f a0 (-1)).bind fun t253 => (some (t253 == t250))) else (some false))) else ((safe_Abs.f t250).bind fun t254 => ((safe_Abs.f a0).bind fun t255 => (if t254 = t255 then ((safe_Sub.f 0 t250).bind fun t256 => (if t256 = a0 then ((safe_Mul.f a0 1).bind fun t257 => (if t257 = a0 then ((safe_Mul.f a0 (-1)).bind fun t258 => (some (t258 == t250))) else (some false))) else (some false))) else (some false))))) else (some false)) = some r := H
              have A17 := Aside0.mk A170
              clear A170
              by_cases c18 : t251 ≥ 0
              · rw [if_pos c18] at H
                have c18b0 : decide (0 ≤ t251) = true := decide_eq_true c18
                clear c18
                by_cases c19 : a0 = (-9223372036854775808)
                · rw [if_pos c19] at H
                  have c19b0 : (a0 == (-9223372036854775808)) = true := beq_iff_eq.mpr c19
                  have c19b1 : (a0 != (-9223372036854775808)) = false := bne_eq_false_iff_eq.mpr c19
                  clear c19
                  replace H := Option.bind_eq_some_iff.mp H
                  obtain ⟨t252, A200, H⟩ := H
                  replace H : (if t252 = a0 then ((safe_Mul.f a0 (-1)).bind fun t253 => (some (t253 == t250))) else (some false)) = some r := H
                  have A20 := Aside0.mk A200
                  clear A200
                  by_cases c21 : t252 = a0
                  · rw [if_pos c21] at H
                    have c21b0 : (t252 == a0) = true := beq_iff_eq.mpr c21
                    have c21b1 : (t252 != a0) = false := bne_eq_false_iff_eq.mpr c21
                    clear c21
                    replace H := Option.bind_eq_some_iff.mp H
                    obtain ⟨t253, A220, H⟩ := H
                    replace H : (some (t253 == t250)) = some r := H
                    have A22 := Aside0.mk A220
                    clear A220
                    obtain rfl := Option.some.inj H
                    go_wp2_with (first | ((with_reducible refine gate_callee (f := 16) rfl ?_); refine goesL_ (some 55) rfl rfl Try.func16 (by kernel_rfl) rfl #[.int .i64 0, .int .i64 a0] rfl (by (try simp only [List.map_toArray, List.map_cons, List.map_nil]); first | done | rfl | (simp only [List.length_drop, List.length_take]; rfl)) ?_; (with_reducible refine (safe_Sub.calls 0 a0 t250 _ A14.out).mono ?_); rintro e w23 ⟨rfl, hb⟩; refine ⟨_, rfl, ?_⟩; have n0_ := Aside0.mk (below_step (by repeat (first | (with_reducible first | exact HB.out | apply below_alloc | apply pw_below_drewN | apply below_drew1) | exact HB.out)) hb); clear HB; have HB := n0_; clear n0_; (try clear hb); (try clear hb2); (try clear hk); (try clear hi)) | (go_at_call 20; (with_reducible refine (safe_Abs.calls a0 t251 _ A17.out).mono ?_); rintro e w24 ⟨rfl, hb⟩; have n0_ := Aside0.mk (below_step (by repeat (first | (with_reducible first | exact HB.out | apply below_alloc | apply pw_below_drewN | apply below_drew1) | exact HB.out)) hb); clear HB; have HB := n0_; clear n0_; (try clear hb); (try clear hb2); (try clear hk); (try clear hi)) | (go_at_call 18; (with_reducible refine (safe_Mul.calls a0 1 t252 _ A20.out).mono ?_); rintro e w25 ⟨rfl, hb⟩; have n0_ := Aside0.mk (below_step (by repeat (first | (with_reducible first | exact HB.out | apply below_alloc | apply pw_below_drewN | apply below_drew1) | exact HB.out)) hb); clear HB; have HB := n0_; clear n0_; (try clear hb); (try clear hb2); (try clear hk); (try clear hi)) | (go_at_call 18; (with_reducible refine (safe_Mul.calls a0 (-1) t253 _ A22.out).mono ?_); rintro e w26 ⟨rfl, hb⟩; have n0_ := Aside0.mk (below_step (by repeat (first | (with_reducible first | exact HB.out | apply below_alloc | apply pw_below_drewN | apply below_drew1) | exact HB.out)) hb); clear HB; have HB := n0_; clear n0_; (try clear hb); (try clear hb2); (try clear hk); (try clear hi)))
                    go_ret
                    exact ⟨by first | rfl | (simp [errW_none, errW_some] <;> rfl) | (simp [*, errW_none, errW_some] <;> rfl), by repeat (first | (with_reducible first | exact HB.out | apply below_alloc | apply pw_below_drewN | apply below_drew1) | exact HB.out)⟩
                  · rw [if_neg c21] at H
                    have c21b0 : (t252 == a0) = false := beq_eq_false_iff_ne.mpr c21
                    have c21b1 : (t252 != a0) = true := bne_iff_ne.mpr c21
                    exact absurd ((Option.some.inj H).trans hr_) (by simp)
                · rw [if_neg c19] at H
                  have c19b0 : (a0 == (-9223372036854775808)) = false := beq_eq_false_iff_ne.mpr c19
                  have c19b1 : (a0 != (-9223372036854775808)) = true := bne_iff_ne.mpr c19
                  replace H := Option.bind_eq_some_iff.mp H
                  obtain ⟨t254, A270, H⟩ := H
                  replace H : ((safe_Abs.f a0).bind fun t255 => (if t254 = t255 then ((safe_Sub.f 0 t250).bind fun t256 => (if t256 = a0 then ((safe_Mul.f a0 1).bind fun t257 => (if t257 = a0 then ((safe_Mul.f a0 (-1)).bind fun t258 => (some (t258 == t250))) else (some false))) else (some false))) else (some false))) = some r := H
                  have A27 := Aside0.mk A270
                  clear A270
                  replace H := Option.bind_eq_some_iff.mp H
                  obtain ⟨t255, A280, H⟩ := H
                  replace H : (if t254 = t255 then ((safe_Sub.f 0 t250).bind fun t256 => (if t256 = a0 then ((safe_Mul.f a0 1).bind fun t257 => (if t257 = a0 then ((safe_Mul.f a0 (-1)).bind fun t258 => (some (t258 == t250))) else (some false))) else (some false))) else (some false)) = some r := H
                  have A28 := Aside0.mk A280
                  clear A280
                  have e_ := Option.some.inj (A17.out.symm.trans A28.out)
                  obtain rfl := e_
                  replace H : (if t254 = t251 then ((safe_Sub.f 0 t250).bind fun t256 => (if t256 = a0 then ((safe_Mul.f a0 1).bind fun t257 => (if t257 = a0 then ((safe_Mul.f a0 (-1)).bind fun t258 => (some (t258 == t250))) else (some false))) else (some false))) else (some false)) = some r := H
                  by_cases c29 : t254 = t251
                  · rw [if_pos c29] at H
                    have c29b0 : (t254 == t251) = true := beq_iff_eq.mpr c29
                    have c29b1 : (t254 != t251) = false := bne_eq_false_iff_eq.mpr c29
                    clear c29
                    replace H := Option.bind_eq_some_iff.mp H
                    obtain ⟨t256, A300, H⟩ := H
                    replace H : (if t256 = a0 then ((safe_Mul.f a0 1).bind fun t257 => (if t257 = a0 then ((safe_Mul.f a0 (-1)).bind fun t258 => (some (t258 == t250))) else (some false))) else (some false)) = some r := H
                    have A30 := Aside0.mk A300
                    clear A300
                    by_cases c31 : t256 = a0
                    · rw [if_pos c31] at H
                      have c31b0 : (t256 == a0) = true := beq_iff_eq.mpr c31
                      have c31b1 : (t256 != a0) = false := bne_eq_false_iff_eq.mpr c31
                      clear c31
                      replace H := Option.bind_eq_some_iff.mp H
                      obtain ⟨t257, A320, H⟩ := H
                      replace H : (if t257 = a0 then ((safe_Mul.f a0 (-1)).bind fun t258 => (some (t258 == t250))) else (some false)) = some r := H
                      have A32 := Aside0.mk A320
                      clear A320
                      by_cases c33 : t257 = a0
                      · rw [if_pos c33] at H
                        have c33b0 : (t257 == a0) = true := beq_iff_eq.mpr c33
                        have c33b1 : (t257 != a0) = false := bne_eq_false_iff_eq.mpr c33
                        clear c33
                        replace H := Option.bind_eq_some_iff.mp H
                        obtain ⟨t258, A340, H⟩ := H
                        replace H : (some (t258 == t250)) = some r := H
                        have A34 := Aside0.mk A340
                        clear A340
                        obtain rfl := Option.some.inj H
                        go_wp2_with (first | ((with_reducible refine gate_callee (f := 16) rfl ?_); refine goesL_ (some 55) rfl rfl Try.func16 (by kernel_rfl) rfl #[.int .i64 0, .int .i64 a0] rfl (by (try simp only [List.map_toArray, List.map_cons, List.map_nil]); first | done | rfl | (simp only [List.length_drop, List.length_take]; rfl)) ?_; (with_reducible refine (safe_Sub.calls 0 a0 t250 _ A14.out).mono ?_); rintro e w35 ⟨rfl, hb⟩; refine ⟨_, rfl, ?_⟩; have n0_ := Aside0.mk (below_step (by repeat (first | (with_reducible first | exact HB.out | apply below_alloc | apply pw_below_drewN | apply below_drew1) | exact HB.out)) hb); clear HB; have HB := n0_; clear n0_; (try clear hb); (try clear hb2); (try clear hk); (try clear hi)) | (go_at_call 20; (with_reducible refine (safe_Abs.calls a0 t251 _ A17.out).mono ?_); rintro e w36 ⟨rfl, hb⟩; have n0_ := Aside0.mk (below_step (by repeat (first | (with_reducible first | exact HB.out | apply below_alloc | apply pw_below_drewN | apply below_drew1) | exact HB.out)) hb); clear HB; have HB := n0_; clear n0_; (try clear hb); (try clear hb2); (try clear hk); (try clear hi)) | (go_at_call 20; (with_reducible refine (safe_Abs.calls t250 t254 _ A27.out).mono ?_); rintro e w37 ⟨rfl, hb⟩; have n0_ := Aside0.mk (below_step (by repeat (first | (with_reducible first | exact HB.out | apply below_alloc | apply pw_below_drewN | apply below_drew1) | exact HB.out)) hb); clear HB; have HB := n0_; clear n0_; (try clear hb); (try clear hb2); (try clear hk); (try clear hi)) | (go_at_call 20; (with_reducible refine (safe_Abs.calls a0 t251 _ A28.out).mono ?_); rintro e w38 ⟨rfl, hb⟩; have n0_ := Aside0.mk (below_step (by repeat (first | (with_reducible first | exact HB.out | apply below_alloc | apply pw_below_drewN | apply below_drew1) | exact HB.out)) hb); clear HB; have HB := n0_; clear n0_; (try clear hb); (try clear hb2); (try clear hk); (try clear hi)) | (go_at_call 16; (with_reducible refine (safe_Sub.calls 0 t250 t256 _ A30.out).mono ?_); rintro e w39 ⟨rfl, hb⟩; have n0_ := Aside0.mk (below_step (by repeat (first | (with_reducible first | exact HB.out | apply below_alloc | apply pw_below_drewN | apply below_drew1) | exact HB.out)) hb); clear HB; have HB := n0_; clear n0_; (try clear hb); (try clear hb2); (try clear hk); (try clear hi)) | (go_at_call 18; (with_reducible refine (safe_Mul.calls a0 1 t257 _ A32.out).mono ?_); rintro e w40 ⟨rfl, hb⟩; have n0_ := Aside0.mk (below_step (by repeat (first | (with_reducible first | exact HB.out | apply below_alloc | apply pw_below_drewN | apply below_drew1) | exact HB.out)) hb); clear HB; have HB := n0_; clear n0_; (try clear hb); (try clear hb2); (try clear hk); (try clear hi)) | (go_at_call 18; (with_reducible refine (safe_Mul.calls a0 (-1) t258 _ A34.out).mono ?_); rintro e w41 ⟨rfl, hb⟩; have n0_ := Aside0.mk (below_step (by repeat (first | (with_reducible first | exact HB.out | apply below_alloc | apply pw_below_drewN | apply below_drew1) | exact HB.out)) hb); clear HB; have HB := n0_; clear n0_; (try clear hb); (try clear hb2); (try clear hk); (try clear hi)))
                        go_ret
                        exact ⟨by first | rfl | (simp [errW_none, errW_some] <;> rfl) | (simp [*, errW_none, errW_some] <;> rfl), by repeat (first | (with_reducible first | exact HB.out | apply below_alloc | apply pw_below_drewN | apply below_drew1) | exact HB.out)⟩
                      · rw [if_neg c33] at H
                        have c33b0 : (t257 == a0) = false := beq_eq_false_iff_ne.mpr c33
                        have c33b1 : (t257 != a0) = true := bne_iff_ne.mpr c33
                        exact absurd ((Option.some.inj H).trans hr_) (by simp)
                    · rw [if_neg c31] at H
                      have c31b0 : (t256 == a0) = false := beq_eq_false_iff_ne.mpr c31
                      have c31b1 : (t256 != a0) = true := bne_iff_ne.mpr c31
                      exact absurd ((Option.some.inj H).trans hr_) (by simp)
                  · rw [if_neg c29] at H
                    have c29b0 : (t254 == t251) = false := beq_eq_false_iff_ne.mpr c29
                    have c29b1 : (t254 != t251) = true := bne_iff_ne.mpr c29
                    exact absurd ((Option.some.inj H).trans hr_) (by simp)
              · rw [if_neg c18] at H
                have c18b0 : decide (0 ≤ t251) = false := decide_eq_false c18
                clear c18
                exact absurd ((Option.some.inj H).trans hr_) (by simp)
            · replace c16 := Bool.eq_false_iff.mpr c16
              subst c16
              have H1 : (some false) = some r := by rw [if_neg (show ¬ (false = true) by decide)] at H; exact H
              clear H
              have H := H1
              clear H1
              exact absurd ((Option.some.inj H).trans hr_) (by simp)
          · replace c15 := Bool.eq_false_iff.mpr c15
            subst c15
            have H1 : (some false) = some r := by rw [if_neg (show ¬ (false = true) by decide)] at H; exact H
            clear H
            have H := H1
            clear H1
            exact absurd ((Option.some.inj H).trans hr_) (by simp)

/-- THE ONE PURE STATEMENT of sawtoothlaw01_SafeSigns: yours. -/
def sawtoothlaw01_SafeSigns.Pure : Prop := ∀ (a0 : Int) (a1 : Int), (Lit.int .i64 a0).wf = true → (Lit.int .i64 a1).wf = true → ∃ k, sawtoothlaw01_SafeSigns.f k a0 a1 = some true
theorem sawtoothlaw01_SafeSigns.walk (P : sawtoothlaw01_SafeSigns.Pure) (a0 : Int) (a1 : Int) (w : World) (w0 : (Lit.int .i64 a0).wf = true) (w1 : (Lit.int .i64 a1).wf = true) :
    Calls Try.prog 6 #[.int .i64 a0, .int .i64 a1] w fun e w' => e = .returned (.bool true) ∧ Below w.heap.size w w' := by
  obtain ⟨k, h⟩ := P a0 a1 w0 w1
  refine (sawtoothlaw01_SafeSigns.calls k a0 a1 true w h rfl).mono ?_
  rintro e w' ⟨rfl, hd⟩
  exact ⟨rfl, hd⟩

end Go.Proofs.Ytdgnhmghniloiaa.Hp
