/- Functions of the program as Lean functions, each with its contract: the call comes to that answer. Told by wip/tools/handprint.py of this session. -/
import Derived.Test.YtdgnhmghniloiaaHpx0
import Derived.Test.YtdgnhmghniloiaaHpx4
namespace Go.Proofs.Ytdgnhmghniloiaa.Hp
open Go.RowKit Go.Proofs.YtdgnhmghniloiaaW.PrintWords Go.Proofs.YtdgnhmghniloiaaW.PrintLast Go.Proofs.YtdgnhmghniloiaaW.PrintMore
attribute [local go_sem] max2_int min2_int max_two min_two max_three min_three max_four min_four   -- for this text's walks alone
set_option linter.unusedVariables false
set_option linter.unusedSimpArgs false

/-! ### sawtoothlaw01_SafeClamps: function 7 -/
def sawtoothlaw01_SafeClamps.f (a0 : Int) (a1 : Int) (a2 : Int) : Option (Bool) := (sawtoothlaw01_awake.f).bind fun t259 => (if a2 < a1 then (if a1 < a2 then ((safe_Clamp.f a0 a2 a2).bind fun t260 => (if t259 = true then (if t260 ≥ a2 then (if t260 ≤ a2 then ((safe_Clamp.f t260 a2 a2).bind fun t261 => (if t261 = t260 then (if a0 ≥ a2 then (if ((t260 == a0) == (decide (a0 ≤ a2))) = true then (if a0 ≥ a1 then (some true) else ((safe_Clamp.f a0 a1 a2).bind fun t262 => (some (t262 == a1)))) else (some false)) else (if ((t260 == a0) == false) = true then (if a0 ≥ a1 then (some true) else ((safe_Clamp.f a0 a1 a2).bind fun t263 => (some (t263 == a1)))) else (some false))) else (some false))) else (some false)) else (some false)) else (some false))) else ((safe_Clamp.f a0 a2 a1).bind fun t264 => (if t259 = true then (if t264 ≥ a2 then (if t264 ≤ a1 then ((safe_Clamp.f t264 a2 a1).bind fun t265 => (if t265 = t264 then (if a0 ≥ a2 then (if ((t264 == a0) == (decide (a0 ≤ a1))) = true then (if a0 ≥ a1 then (some true) else ((safe_Clamp.f a0 a1 a2).bind fun t266 => (some (t266 == a1)))) else (some false)) else (if ((t264 == a0) == false) = true then (if a0 ≥ a1 then (some true) else ((safe_Clamp.f a0 a1 a2).bind fun t267 => (some (t267 == a1)))) else (some false))) else (some false))) else (some false)) else (some false)) else (some false)))) else (if a1 < a2 then ((safe_Clamp.f a0 a1 a2).bind fun t268 => (if t259 = true then (if t268 ≥ a1 then (if t268 ≤ a2 then ((safe_Clamp.f t268 a1 a2).bind fun t269 => (if t269 = t268 then (if a0 ≥ a1 then (if ((t268 == a0) == (decide (a0 ≤ a2))) = true then (some true) else (some false)) else (if ((t268 == a0) == false) = true then ((safe_Clamp.f a0 a1 a2).bind fun t270 => (some (t270 == a1))) else (some false))) else (some false))) else (some false)) else (some false)) else (some false))) else ((safe_Clamp.f a0 a1 a1).bind fun t271 => (if t259 = true then (if t271 ≥ a1 then (if t271 ≤ a1 then ((safe_Clamp.f t271 a1 a1).bind fun t272 => (if t272 = t271 then (if a0 ≥ a1 then (if ((t271 == a0) == (decide (a0 ≤ a1))) = true then (some true) else (some false)) else (if ((t271 == a0) == false) = true then ((safe_Clamp.f a0 a1 a2).bind fun t273 => (some (t273 == a1))) else (some false))) else (some false))) else (some false)) else (some false)) else (some false)))))
set_option maxHeartbeats 8000000 in
set_option maxRecDepth 100000 in
theorem sawtoothlaw01_SafeClamps.calls (a0 : Int) (a1 : Int) (a2 : Int) (r : Bool) (w : World) (h : sawtoothlaw01_SafeClamps.f a0 a1 a2 = some r) (hr_ : r = true) :
    Calls Try.prog 7 #[.int .i64 a0, .int .i64 a1, .int .i64 a2] w fun e w' => e = .returned (.bool r) ∧ Below w.heap.size w w' := by
  have HB := Aside0.mk (Below.refl w.heap.size w)
  have H : ((sawtoothlaw01_awake.f).bind fun t259 => (if a2 < a1 then (if a1 < a2 then ((safe_Clamp.f a0 a2 a2).bind fun t260 => (if t259 = true then (if t260 ≥ a2 then (if t260 ≤ a2 then ((safe_Clamp.f t260 a2 a2).bind fun t261 => (if t261 = t260 then (if a0 ≥ a2 then (if ((t260 == a0) == (decide (a0 ≤ a2))) = true then (if a0 ≥ a1 then (some true) else ((safe_Clamp.f a0 a1 a2).bind fun t262 => (some (t262 == a1)))) else (some false)) else (if ((t260 == a0) == false) = true then (if a0 ≥ a1 then (some true) else ((safe_Clamp.f a0 a1 a2).bind fun t263 => (some (t263 == a1)))) else (some false))) else (some false))) else (some false)) else (some false)) else (some false))) else ((safe_Clamp.f a0 a2 a1).bind fun t264 => (if t259 = true then (if t264 ≥ a2 then (if t264 ≤ a1 then ((safe_Clamp.f t264 a2 a1).bind fun t265 => (if t265 = t264 then (if a0 ≥ a2 then (if ((t264 == a0) == (decide (a0 ≤ a1))) = true then (if a0 ≥ a1 then (some true) else ((safe_Clamp.f a0 a1 a2).bind fun t266 => (some (t266 == a1)))) else (some false)) else (if ((t264 == a0) == false) = true then (if a0 ≥ a1 then (some true) else ((safe_Clamp.f a0 a1 a2).bind fun t267 => (some (t267 == a1)))) else (some false))) else (some false))) else (some false)) else (some false)) else (some false)))) else (if a1 < a2 then ((safe_Clamp.f a0 a1 a2).bind fun t268 => (if t259 = true then (if t268 ≥ a1 then (if t268 ≤ a2 then ((safe_Clamp.f t268 a1 a2).bind fun t269 => (if t269 = t268 then (if a0 ≥ a1 then (if ((t268 == a0) == (decide (a0 ≤ a2))) = true then (some true) else (some false)) else (if ((t268 == a0) == false) = true then ((safe_Clamp.f a0 a1 a2).bind fun t270 => (some (t270 == a1))) else (some false))) else (some false))) else (some false)) else (some false)) else (some false))) else ((safe_Clamp.f a0 a1 a1).bind fun t271 => (if t259 = true then (if t271 ≥ a1 then (if t271 ≤ a1 then ((safe_Clamp.f t271 a1 a1).bind fun t272 => (if t272 = t271 then (if a0 ≥ a1 then (if ((t271 == a0) == (decide (a0 ≤ a1))) = true then (some true) else (some false)) else (if ((t271 == a0) == false) = true then ((safe_Clamp.f a0 a1 a2).bind fun t273 => (some (t273 == a1))) else (some false))) else (some false))) else (some false)) else (some false)) else (some false)))))) = some r := h
  clear h
  replace H := Option.bind_eq_some_iff.mp H
  obtain ⟨t259, A40, H⟩ := H
  replace H : (if a2 < a1 then (if a1 < a2 then ((safe_Clamp.f a0 a2 a2).bind fun t260 => (if t259 = true then (if t260 ≥ a2 then (if t260 ≤ a2 then ((safe_Clamp.f t260 a2 a2).bind fun t261 => (if t261 = t260 then (if a0 ≥ a2 then (if ((t260 == a0) == (decide (a0 ≤ a2))) = true then (if a0 ≥ a1 then (some true) else ((safe_Clamp.f a0 a1 a2).bind fun t262 => (some (t262 == a1)))) else (some false)) else (if ((t260 == a0) == false) = true then (if a0 ≥ a1 then (some true) else ((safe_Clamp.f a0 a1 a2).bind fun t263 => (some (t263 == a1)))) else (some false))) else (some false))) else (some false)) else (some false)) else (some false))) else ((safe_Clamp.f a0 a2 a1).bind fun t264 => (if t259 = true then (if t264 ≥ a2 then (if t264 ≤ a1 then ((safe_Clamp.f t264 a2 a1).bind fun t265 => (if t265 = t264 then (if a0 ≥ a2 then (if ((t264 == a0) == (decide (a0 ≤ a1))) = true then (if a0 ≥ a1 then (some true) else ((safe_Clamp.f a0 a1 a2).bind fun t266 => (some (t266 == a1)))) else (some false)) else (if ((t264 == a0) == false) = true then (if a0 ≥ a1 then (some true) else ((safe_Clamp.f a0 a1 a2).bind fun t267 => (some (t267 == a1)))) else (some false))) else (some false))) else (some false)) else (some false)) else (some false)))) else (if a1 < a2 then ((safe_Clamp.f a0 a1 a2).bind fun t268 => (if t259 = true then (if t268 ≥ a1 then (if t268 ≤ a2 then ((safe_Clamp.f t268 a1 a2).bind fun t269 => (if t269 = t268 then (if a0 ≥ a1 then (if ((t268 == a0) == (decide (a0 ≤ a2))) = true then (some true) else (some false)) else (if ((t268 == a0) == false) = true then ((safe_Clamp.f a0 a1 a2).bind fun t270 => (some (t270 == a1))) else (some false))) else (some false))) else (some false)) else (some false)) else (some false))) else ((safe_Clamp.f a0 a1 a1).bind fun t271 => (if t259 = true then (if t271 ≥ a1 then (if t271 ≤ a1 then ((safe_Clamp.f t271 a1 a1).bind fun t272 => (if t272 = t271 then (if a0 ≥ a1 then (if ((t271 == a0) == (decide (a0 ≤ a1))) = true then (some true) else (some false)) else (if ((t271 == a0) == false) = true then ((safe_Clamp.f a0 a1 a2).bind fun t273 => (some (t273 == a1))) else (some false))) else (some false))) else (some false)) else (some false)) else (some false))))) = some r := H
  have A4 := Aside0.mk A40
  clear A40
  by_cases c5 : a2 < a1
  · rw [if_pos c5] at H
    have c5i := eq_true c5
    have c5b0 : decide (a2 < a1) = true := decide_eq_true c5
    clear c5
    by_cases c6 : a1 < a2
    · rw [if_pos c6] at H
      have c6i := eq_true c6
      have c6b0 : decide (a1 < a2) = true := decide_eq_true c6
      clear c6
      replace H := Option.bind_eq_some_iff.mp H
      obtain ⟨t260, A70, H⟩ := H
      replace H : (if t259 = true then (if t260 ≥ a2 then (if t260 ≤ a2 then ((safe_Clamp.f t260 a2 a2).bind fun t261 => (if t261 = t260 then (if a0 ≥ a2 then (if ((t260 == a0) == (decide (a0 ≤ a2))) = true then (if a0 ≥ a1 then (some true) else ((safe_Clamp.f a0 a1 a2).bind fun t262 => (some (t262 == a1)))) else (some false)) else (if ((t260 == a0) == false) = true then (if a0 ≥ a1 then (some true) else ((safe_Clamp.f a0 a1 a2).bind fun t263 => (some (t263 == a1)))) else (some false))) else (some false))) else (some false)) else (some false)) else (some false)) = some r := H
      have A7 := Aside0.mk A70
      clear A70
      by_cases c8 : t259 = true
      · subst c8
        have H1 : (if t260 ≥ a2 then (if t260 ≤ a2 then ((safe_Clamp.f t260 a2 a2).bind fun t261 => (if t261 = t260 then (if a0 ≥ a2 then (if ((t260 == a0) == (decide (a0 ≤ a2))) = true then (if a0 ≥ a1 then (some true) else ((safe_Clamp.f a0 a1 a2).bind fun t262 => (some (t262 == a1)))) else (some false)) else (if ((t260 == a0) == false) = true then (if a0 ≥ a1 then (some true) else ((safe_Clamp.f a0 a1 a2).bind fun t263 => (some (t263 == a1)))) else (some false))) else (some false))) else (some false)) else (some false)) = some r := by rw [if_pos rfl] at H; exact H
        clear H
        have H := H1
        clear H1
        by_cases c9 : t260 ≥ a2
        · rw [if_pos c9] at H
          have c9b0 : decide (a2 ≤ t260) = true := decide_eq_true c9
          clear c9
          by_cases c10 : t260 ≤ a2
          · rw [if_pos c10] at H
            have c10b0 : decide (t260 ≤ a2) = true := decide_eq_true c10
            clear c10
            replace H := Option.bind_eq_some_iff.mp H
            obtain ⟨t261, A110, H⟩ := H
            replace H : (if t261 = t260 then (if a0 ≥ a2 then (if ((t260 == a0) == (decide (a0 ≤ a2))) = true then (if a0 ≥ a1 then (some true) else ((safe_Clamp.f a0 a1 a2).bind fun t262 => (some (t262 == a1)))) else (some false)) else (if ((t260 == a0) == false) = true then (if a0 ≥ a1 then (some true) else ((safe_Clamp.f a0 a1 a2).bind fun t263 => (some (t263 == a1)))) else (some false))) else (some false)) = some r := H
            have A11 := Aside0.mk A110
            clear A110
            by_cases c12 : t261 = t260
            · rw [if_pos c12] at H
              have c12b0 : (t261 == t260) = true := beq_iff_eq.mpr c12
              have c12b1 : (t261 != t260) = false := bne_eq_false_iff_eq.mpr c12
              clear c12
              by_cases c13 : a0 ≥ a2
              · rw [if_pos c13] at H
                have c13b0 : decide (a2 ≤ a0) = true := decide_eq_true c13
                clear c13
                by_cases c14 : ((t260 == a0) == (decide (a0 ≤ a2))) = true
                · rw [if_pos c14] at H
                  have c14b0 : ((t260 == a0) == (decide (a0 ≤ a2))) = true := c14
                  (try (have c14b1 : decide ((t260 == a0) = (decide (a0 ≤ a2))) = true := by simpa using c14))
                  (try (have c14b2 : ((t260 == a0) == (decide (a0 ≤ a2))) = true := by simpa using c14))
                  clear c14
                  by_cases c15 : a0 ≥ a1
                  · rw [if_pos c15] at H
                    have c15b0 : decide (a1 ≤ a0) = true := decide_eq_true c15
                    clear c15
                    obtain rfl := Option.some.inj H
                    go_enter Try.func7, Try.ntmps7
                    go_wp2_with (first | ((with_reducible refine gate_callee (f := 9) rfl ?_); refine goesL_ (some 11) rfl rfl Try.func9 (by kernel_rfl) rfl #[] rfl (by (try simp only [List.map_toArray, List.map_cons, List.map_nil]); first | done | rfl | (simp only [List.length_drop, List.length_take]; rfl)) ?_; (with_reducible refine (sawtoothlaw01_awake.calls  true _ A4.out).mono ?_); rintro e w16 ⟨rfl, hb⟩; refine ⟨_, rfl, ?_⟩; have n0_ := Aside0.mk (below_step (by repeat (first | (with_reducible first | exact HB.out | apply below_alloc | apply pw_below_drewN | apply below_drew1) | exact HB.out)) hb); clear HB; have HB := n0_; clear n0_; (try clear hb); (try clear hb2); (try clear hk); (try clear hi)) | ((with_reducible refine gate_callee (f := 22) rfl ?_); refine goesL_ (some 21) rfl rfl Try.func22 (by kernel_rfl) rfl #[.int .i64 a0, .int .i64 a2, .int .i64 a2] rfl (by (try simp only [List.map_toArray, List.map_cons, List.map_nil]); first | done | rfl | (simp only [List.length_drop, List.length_take]; rfl)) ?_; (with_reducible refine (safe_Clamp.calls a0 a2 a2 t260 _ A7.out).mono ?_); rintro e w17 ⟨rfl, hb⟩; refine ⟨_, rfl, ?_⟩; have n0_ := Aside0.mk (below_step (by repeat (first | (with_reducible first | exact HB.out | apply below_alloc | apply pw_below_drewN | apply below_drew1) | exact HB.out)) hb); clear HB; have HB := n0_; clear n0_; (try clear hb); (try clear hb2); (try clear hk); (try clear hi)) | (go_at_call 22; (with_reducible refine (safe_Clamp.calls t260 a2 a2 t261 _ A11.out).mono ?_); rintro e w18 ⟨rfl, hb⟩; have n0_ := Aside0.mk (below_step (by repeat (first | (with_reducible first | exact HB.out | apply below_alloc | apply pw_below_drewN | apply below_drew1) | exact HB.out)) hb); clear HB; have HB := n0_; clear n0_; (try clear hb); (try clear hb2); (try clear hk); (try clear hi)))
                    go_ret
                    exact ⟨by first | rfl | (simp [errW_none, errW_some] <;> rfl) | (simp [*, errW_none, errW_some] <;> rfl), by repeat (first | (with_reducible first | exact HB.out | apply below_alloc | apply pw_below_drewN | apply below_drew1) | exact HB.out)⟩
                  · rw [if_neg c15] at H
                    have c15b0 : decide (a1 ≤ a0) = false := decide_eq_false c15
                    clear c15
                    replace H := Option.bind_eq_some_iff.mp H
                    obtain ⟨t262, A190, H⟩ := H
                    replace H : (some (t262 == a1)) = some r := H
                    have A19 := Aside0.mk A190
                    clear A190
                    obtain rfl := Option.some.inj H
                    go_enter Try.func7, Try.ntmps7
                    go_wp2_with (first | ((with_reducible refine gate_callee (f := 9) rfl ?_); refine goesL_ (some 11) rfl rfl Try.func9 (by kernel_rfl) rfl #[] rfl (by (try simp only [List.map_toArray, List.map_cons, List.map_nil]); first | done | rfl | (simp only [List.length_drop, List.length_take]; rfl)) ?_; (with_reducible refine (sawtoothlaw01_awake.calls  true _ A4.out).mono ?_); rintro e w20 ⟨rfl, hb⟩; refine ⟨_, rfl, ?_⟩; have n0_ := Aside0.mk (below_step (by repeat (first | (with_reducible first | exact HB.out | apply below_alloc | apply pw_below_drewN | apply below_drew1) | exact HB.out)) hb); clear HB; have HB := n0_; clear n0_; (try clear hb); (try clear hb2); (try clear hk); (try clear hi)) | ((with_reducible refine gate_callee (f := 22) rfl ?_); refine goesL_ (some 21) rfl rfl Try.func22 (by kernel_rfl) rfl #[.int .i64 a0, .int .i64 a2, .int .i64 a2] rfl (by (try simp only [List.map_toArray, List.map_cons, List.map_nil]); first | done | rfl | (simp only [List.length_drop, List.length_take]; rfl)) ?_; (with_reducible refine (safe_Clamp.calls a0 a2 a2 t260 _ A7.out).mono ?_); rintro e w21 ⟨rfl, hb⟩; refine ⟨_, rfl, ?_⟩; have n0_ := Aside0.mk (below_step (by repeat (first | (with_reducible first | exact HB.out | apply below_alloc | apply pw_below_drewN | apply below_drew1) | exact HB.out)) hb); clear HB; have HB := n0_; clear n0_; (try clear hb); (try clear hb2); (try clear hk); (try clear hi)) | (go_at_call 22; (with_reducible refine (safe_Clamp.calls t260 a2 a2 t261 _ A11.out).mono ?_); rintro e w22 ⟨rfl, hb⟩; have n0_ := Aside0.mk (below_step (by repeat (first | (with_reducible first | exact HB.out | apply below_alloc | apply pw_below_drewN | apply below_drew1) | exact HB.out)) hb); clear HB; have HB := n0_; clear n0_; (try clear hb); (try clear hb2); (try clear hk); (try clear hi)) | (go_at_call 22; (with_reducible refine (safe_Clamp.calls a0 a1 a2 t262 _ A19.out).mono ?_); rintro e w23 ⟨rfl, hb⟩; have n0_ := Aside0.mk (below_step (by repeat (first | (with_reducible first | exact HB.out | apply below_alloc | apply pw_below_drewN | apply below_drew1) | exact HB.out)) hb); clear HB; have HB := n0_; clear n0_; (try clear hb); (try clear hb2); (try clear hk); (try clear hi)))
                    go_ret
                    exact ⟨by first | rfl | (simp [errW_none, errW_some] <;> rfl) | (simp [*, errW_none, errW_some] <;> rfl), by repeat (first | (with_reducible first | exact HB.out | apply below_alloc | apply pw_below_drewN | apply below_drew1) | exact HB.out)⟩
                · rw [if_neg c14] at H
                  have c14b0 : ((t260 == a0) == (decide (a0 ≤ a2))) = false := by simpa using c14
                  (try (have c14b1 : decide ((t260 == a0) = (decide (a0 ≤ a2))) = false := by simpa using c14))
                  (try (have c14b2 : ((t260 == a0) == (decide (a0 ≤ a2))) = false := by simpa using c14))
                  (try (have c14b3 : ¬ ((t260 == a0) = (decide (a0 ≤ a2))) := by simpa using c14))
                  clear c14
                  exact absurd ((Option.some.inj H).trans hr_) (by simp)
              · rw [if_neg c13] at H
                have c13b0 : decide (a2 ≤ a0) = false := decide_eq_false c13
                clear c13
                by_cases c24 : ((t260 == a0) == false) = true
                · rw [if_pos c24] at H
                  have c24b0 : ((t260 == a0) == false) = true := c24
                  (try (have c24b1 : decide ((t260 == a0) = false) = true := by simpa using c24))
                  (try (have c24b2 : ((t260 == a0) == false) = true := by simpa using c24))
                  clear c24
                  by_cases c25 : a0 ≥ a1
                  · rw [if_pos c25] at H
                    have c25b0 : decide (a1 ≤ a0) = true := decide_eq_true c25
                    clear c25
                    obtain rfl := Option.some.inj H
                    go_enter Try.func7, Try.ntmps7
                    go_wp2_with (first | ((with_reducible refine gate_callee (f := 9) rfl ?_); refine goesL_ (some 11) rfl rfl Try.func9 (by kernel_rfl) rfl #[] rfl (by (try simp only [List.map_toArray, List.map_cons, List.map_nil]); first | done | rfl | (simp only [List.length_drop, List.length_take]; rfl)) ?_; (with_reducible refine (sawtoothlaw01_awake.calls  true _ A4.out).mono ?_); rintro e w26 ⟨rfl, hb⟩; refine ⟨_, rfl, ?_⟩; have n0_ := Aside0.mk (below_step (by repeat (first | (with_reducible first | exact HB.out | apply below_alloc | apply pw_below_drewN | apply below_drew1) | exact HB.out)) hb); clear HB; have HB := n0_; clear n0_; (try clear hb); (try clear hb2); (try clear hk); (try clear hi)) | ((with_reducible refine gate_callee (f := 22) rfl ?_); refine goesL_ (some 21) rfl rfl Try.func22 (by kernel_rfl) rfl #[.int .i64 a0, .int .i64 a2, .int .i64 a2] rfl (by (try simp only [List.map_toArray, List.map_cons, List.map_nil]); first | done | rfl | (simp only [List.length_drop, List.length_take]; rfl)) ?_; (with_reducible refine (safe_Clamp.calls a0 a2 a2 t260 _ A7.out).mono ?_); rintro e w27 ⟨rfl, hb⟩; refine ⟨_, rfl, ?_⟩; have n0_ := Aside0.mk (below_step (by repeat (first | (with_reducible first | exact HB.out | apply below_alloc | apply pw_below_drewN | apply below_drew1) | exact HB.out)) hb); clear HB; have HB := n0_; clear n0_; (try clear hb); (try clear hb2); (try clear hk); (try clear hi)) | (go_at_call 22; (with_reducible refine (safe_Clamp.calls t260 a2 a2 t261 _ A11.out).mono ?_); rintro e w28 ⟨rfl, hb⟩; have n0_ := Aside0.mk (below_step (by repeat (first | (with_reducible first | exact HB.out | apply below_alloc | apply pw_below_drewN | apply below_drew1) | exact HB.out)) hb); clear HB; have HB := n0_; clear n0_; (try clear hb); (try clear hb2); (try clear hk); (try clear hi)))
                    go_ret
                    exact ⟨by first | rfl | (simp [errW_none, errW_some] <;> rfl) | (simp [*, errW_none, errW_some] <;> rfl), by repeat (first | (with_reducible first | exact HB.out | apply below_alloc | apply pw_below_drewN | apply below_drew1) | exact HB.out)⟩
                  · rw [if_neg c25] at H
                    have c25b0 : decide (a1 ≤ a0) = false := decide_eq_false c25
                    clear c25
                    replace H := Option.bind_eq_some_iff.mp H
                    obtain ⟨t263, A290, H⟩ := H
                    replace H : (some (t263 == a1)) = some r := H
                    have A29 := Aside0.mk A290
                    clear A290
                    obtain rfl := Option.some.inj H
                    go_enter Try.func7, Try.ntmps7
                    go_wp2_with (first | ((with_reducible refine gate_callee (f := 9) rfl ?_); refine goesL_ (some 11) rfl rfl Try.func9 (by kernel_rfl) rfl #[] rfl (by (try simp only [List.map_toArray, List.map_cons, List.map_nil]); first | done | rfl | (simp only [List.length_drop, List.length_take]; rfl)) ?_; (with_reducible refine (sawtoothlaw01_awake.calls  true _ A4.out).mono ?_); rintro e w30 ⟨rfl, hb⟩; refine ⟨_, rfl, ?_⟩; have n0_ := Aside0.mk (below_step (by repeat (first | (with_reducible first | exact HB.out | apply below_alloc | apply pw_below_drewN | apply below_drew1) | exact HB.out)) hb); clear HB; have HB := n0_; clear n0_; (try clear hb); (try clear hb2); (try clear hk); (try clear hi)) | ((with_reducible refine gate_callee (f := 22) rfl ?_); refine goesL_ (some 21) rfl rfl Try.func22 (by kernel_rfl) rfl #[.int .i64 a0, .int .i64 a2, .int .i64 a2] rfl (by (try simp only [List.map_toArray, List.map_cons, List.map_nil]); first | done | rfl | (simp only [List.length_drop, List.length_take]; rfl)) ?_; (with_reducible refine (safe_Clamp.calls a0 a2 a2 t260 _ A7.out).mono ?_); rintro e w31 ⟨rfl, hb⟩; refine ⟨_, rfl, ?_⟩; have n0_ := Aside0.mk (below_step (by repeat (first | (with_reducible first | exact HB.out | apply below_alloc | apply pw_below_drewN | apply below_drew1) | exact HB.out)) hb); clear HB; have HB := n0_; clear n0_; (try clear hb); (try clear hb2); (try clear hk); (try clear hi)) | (go_at_call 22; (with_reducible refine (safe_Clamp.calls t260 a2 a2 t261 _ A11.out).mono ?_); rintro e w32 ⟨rfl, hb⟩; have n0_ := Aside0.mk (below_step (by repeat (first | (with_reducible first | exact HB.out | apply below_alloc | apply pw_below_drewN | apply below_drew1) | exact HB.out)) hb); clear HB; have HB := n0_; clear n0_; (try clear hb); (try clear hb2); (try clear hk); (try clear hi)) | (go_at_call 22; (with_reducible refine (safe_Clamp.calls a0 a1 a2 t263 _ A29.out).mono ?_); rintro e w33 ⟨rfl, hb⟩; have n0_ := Aside0.mk (below_step (by repeat (first | (with_reducible first | exact HB.out | apply below_alloc | apply pw_below_drewN | apply below_drew1) | exact HB.out)) hb); clear HB; have HB := n0_; clear n0_; (try clear hb); (try clear hb2); (try clear hk); (try clear hi)))
                    go_ret
                    exact ⟨by first | rfl | (simp [errW_none, errW_some] <;> rfl) | (simp [*, errW_none, errW_some] <;> rfl), by repeat (first | (with_reducible first | exact HB.out | apply below_alloc | apply pw_below_drewN | apply below_drew1) | exact HB.out)⟩
                · rw [if_neg c24] at H
                  have c24b0 : ((t260 == a0) == false) = false := by simpa using c24
                  (try (have c24b1 : decide ((t260 == a0) = false) = false := by simpa using c24))
                  (try (have c24b2 : ((t260 == a0) == false) = false := by simpa using c24))
                  (try (have c24b3 : ¬ ((t260 == a0) = false) := by simpa using c24))
                  clear c24
                  exact absurd ((Option.some.inj H).trans hr_) (by simp)
            · rw [if_neg c12] at H
              have c12b0 : (t261 == t260) = false := beq_eq_false_iff_ne.mpr c12
              have c12b1 : (t261 != t260) = true := bne_iff_ne.mpr c12
              exact absurd ((Option.some.inj H).trans hr_) (by simp)
          · rw [if_neg c10] at H
            have c10b0 : decide (t260 ≤ a2) = false := decide_eq_false c10
            clear c10
            exact absurd ((Option.some.inj H).trans hr_) (by simp)
        · rw [if_neg c9] at H
          have c9b0 : decide (a2 ≤ t260) = false := decide_eq_false c9
          clear c9
          exact absurd ((Option.some.inj H).trans hr_) (by simp)
      · replace c8 := Bool.eq_false_iff.mpr c8
        subst c8
        have H1 : (some false) = some r := by rw [if_neg (show ¬ (false = true) by decide)] at H; exact H
        clear H
        have H := H1
        clear H1
        exact absurd ((Option.some.inj H).trans hr_) (by simp)
    · rw [if_neg c6] at H
      have c6i := eq_false c6
      have c6b0 : decide (a1 < a2) = false := decide_eq_false c6
      clear c6
      replace H := Option.bind_eq_some_iff.mp H
      obtain ⟨t264, A340, H⟩ := H
      replace H : (if t259 = true then (if t264 ≥ a2 then (if t264 ≤ a1 then ((safe_Clamp.f t264 a2 a1).bind fun t265 => (if t265 = t264 then (if a0 ≥ a2 then (if ((t264 == a0) == (decide (a0 ≤ a1))) = true then (if a0 ≥ a1 then (some true) else ((safe_Clamp.f a0 a1 a2).bind fun t266 => (some (t266 == a1)))) else (some false)) else (if ((t264 == a0) == false) = true then (if a0 ≥ a1 then (some true) else ((safe_Clamp.f a0 a1 a2).bind fun t267 => (some (t267 == a1)))) else (some false))) else (some false))) else (some false)) else (some false)) else (some false)) = some r := H
      have A34 := Aside0.mk A340
      clear A340
      by_cases c35 : t259 = true
      · subst c35
        have H1 : (if t264 ≥ a2 then (if t264 ≤ a1 then ((safe_Clamp.f t264 a2 a1).bind fun t265 => (if t265 = t264 then (if a0 ≥ a2 then (if ((t264 == a0) == (decide (a0 ≤ a1))) = true then (if a0 ≥ a1 then (some true) else ((safe_Clamp.f a0 a1 a2).bind fun t266 => (some (t266 == a1)))) else (some false)) else (if ((t264 == a0) == false) = true then (if a0 ≥ a1 then (some true) else ((safe_Clamp.f a0 a1 a2).bind fun t267 => (some (t267 == a1)))) else (some false))) else (some false))) else (some false)) else (some false)) = some r := by rw [if_pos rfl] at H; exact H
        clear H
        have H := H1
        clear H1
        by_cases c36 : t264 ≥ a2
        · rw [if_pos c36] at H
          have c36b0 : decide (a2 ≤ t264) = true := decide_eq_true c36
          clear c36
          by_cases c37 : t264 ≤ a1
          · rw [if_pos c37] at H
            have c37b0 : decide (t264 ≤ a1) = true := decide_eq_true c37
            clear c37
            replace H := Option.bind_eq_some_iff.mp H
            obtain ⟨t265, A380, H⟩ := H
            replace H : (if t265 = t264 then (if a0 ≥ a2 then (if ((t264 == a0) == (decide (a0 ≤ a1))) = true then (if a0 ≥ a1 then (some true) else ((safe_Clamp.f a0 a1 a2).bind fun t266 => (some (t266 == a1)))) else (some false)) else (if ((t264 == a0) == false) = true then (if a0 ≥ a1 then (some true) else ((safe_Clamp.f a0 a1 a2).bind fun t267 => (some (t267 == a1)))) else (some false))) else (some false)) = some r := H
            have A38 := Aside0.mk A380
            clear A380
            by_cases c39 : t265 = t264
            · rw [if_pos c39] at H
              have c39b0 : (t265 == t264) = true := beq_iff_eq.mpr c39
              have c39b1 : (t265 != t264) = false := bne_eq_false_iff_eq.mpr c39
              clear c39
              by_cases c40 : a0 ≥ a2
              · rw [if_pos c40] at H
                have c40b0 : decide (a2 ≤ a0) = true := decide_eq_true c40
                clear c40
                by_cases c41 : ((t264 == a0) == (decide (a0 ≤ a1))) = true
                · rw [if_pos c41] at H
                  have c41b0 : ((t264 == a0) == (decide (a0 ≤ a1))) = true := c41
                  (try (have c41b1 : decide ((t264 == a0) = (decide (a0 ≤ a1))) = true := by simpa using c41))
                  (try (have c41b2 : ((t264 == a0) == (decide (a0 ≤ a1))) = true := by simpa using c41))
                  clear c41
                  by_cases c42 : a0 ≥ a1
                  · rw [if_pos c42] at H
                    have c42b0 : decide (a1 ≤ a0) = true := decide_eq_true c42
                    clear c42
                    obtain rfl := Option.some.inj H
                    go_enter Try.func7, Try.ntmps7
                    go_wp2_with (first | ((with_reducible refine gate_callee (f := 9) rfl ?_); refine goesL_ (some 11) rfl rfl Try.func9 (by kernel_rfl) rfl #[] rfl (by (try simp only [List.map_toArray, List.map_cons, List.map_nil]); first | done | rfl | (simp only [List.length_drop, List.length_take]; rfl)) ?_; (with_reducible refine (sawtoothlaw01_awake.calls  true _ A4.out).mono ?_); rintro e w43 ⟨rfl, hb⟩; refine ⟨_, rfl, ?_⟩; have n0_ := Aside0.mk (below_step (by repeat (first | (with_reducible first | exact HB.out | apply below_alloc | apply pw_below_drewN | apply below_drew1) | exact HB.out)) hb); clear HB; have HB := n0_; clear n0_; (try clear hb); (try clear hb2); (try clear hk); (try clear hi)) | ((with_reducible refine gate_callee (f := 22) rfl ?_); refine goesL_ (some 21) rfl rfl Try.func22 (by kernel_rfl) rfl #[.int .i64 a0, .int .i64 a2, .int .i64 a1] rfl (by (try simp only [List.map_toArray, List.map_cons, List.map_nil]); first | done | rfl | (simp only [List.length_drop, List.length_take]; rfl)) ?_; (with_reducible refine (safe_Clamp.calls a0 a2 a1 t264 _ A34.out).mono ?_); rintro e w44 ⟨rfl, hb⟩; refine ⟨_, rfl, ?_⟩; have n0_ := Aside0.mk (below_step (by repeat (first | (with_reducible first | exact HB.out | apply below_alloc | apply pw_below_drewN | apply below_drew1) | exact HB.out)) hb); clear HB; have HB := n0_; clear n0_; (try clear hb); (try clear hb2); (try clear hk); (try clear hi)) | (go_at_call 22; (with_reducible refine (safe_Clamp.calls t264 a2 a1 t265 _ A38.out).mono ?_); rintro e w45 ⟨rfl, hb⟩; have n0_ := Aside0.mk (below_step (by repeat (first | (with_reducible first | exact HB.out | apply below_alloc | apply pw_below_drewN | apply below_drew1) | exact HB.out)) hb); clear HB; have HB := n0_; clear n0_; (try clear hb); (try clear hb2); (try clear hk); (try clear hi)))
                    go_ret
                    exact ⟨by first | rfl | (simp [errW_none, errW_some] <;> rfl) | (simp [*, errW_none, errW_some] <;> rfl), by repeat (first | (with_reducible first | exact HB.out | apply below_alloc | apply pw_below_drewN | apply below_drew1) | exact HB.out)⟩
                  · rw [if_neg c42] at H
                    have c42b0 : decide (a1 ≤ a0) = false := decide_eq_false c42
                    clear c42
                    replace H := Option.bind_eq_some_iff.mp H
                    obtain ⟨t266, A460, H⟩ := H
                    replace H : (some (t266 == a1)) = some r := H
                    have A46 := Aside0.mk A460
                    clear A460
                    obtain rfl := Option.some.inj H
                    go_enter Try.func7, Try.ntmps7
                    go_wp2_with (first | ((with_reducible refine gate_callee (f := 9) rfl ?_); refine goesL_ (some 11) rfl rfl Try.func9 (by kernel_rfl) rfl #[] rfl (by (try simp only [List.map_toArray, List.map_cons, List.map_nil]); first | done | rfl | (simp only [List.length_drop, List.length_take]; rfl)) ?_; (with_reducible refine (sawtoothlaw01_awake.calls  true _ A4.out).mono ?_); rintro e w47 ⟨rfl, hb⟩; refine ⟨_, rfl, ?_⟩; have n0_ := Aside0.mk (below_step (by repeat (first | (with_reducible first | exact HB.out | apply below_alloc | apply pw_below_drewN | apply below_drew1) | exact HB.out)) hb); clear HB; have HB := n0_; clear n0_; (try clear hb); (try clear hb2); (try clear hk); (try clear hi)) | ((with_reducible refine gate_callee (f := 22) rfl ?_); refine goesL_ (some 21) rfl rfl Try.func22 (by kernel_rfl) rfl #[.int .i64 a0, .int .i64 a2, .int .i64 a1] rfl (by (try simp only [List.map_toArray, List.map_cons, List.map_nil]); first | done | rfl | (simp only [List.length_drop, List.length_take]; rfl)) ?_; (with_reducible refine (safe_Clamp.calls a0 a2 a1 t264 _ A34.out).mono ?_); rintro e w48 ⟨rfl, hb⟩; refine ⟨_, rfl, ?_⟩; have n0_ := Aside0.mk (below_step (by repeat (first | (with_reducible first | exact HB.out | apply below_alloc | apply pw_below_drewN | apply below_drew1) | exact HB.out)) hb); clear HB; have HB := n0_; clear n0_; (try clear hb); (try clear hb2); (try clear hk); (try clear hi)) | (go_at_call 22; (with_reducible refine (safe_Clamp.calls t264 a2 a1 t265 _ A38.out).mono ?_); rintro e w49 ⟨rfl, hb⟩; have n0_ := Aside0.mk (below_step (by repeat (first | (with_reducible first | exact HB.out | apply below_alloc | apply pw_below_drewN | apply below_drew1) | exact HB.out)) hb); clear HB; have HB := n0_; clear n0_; (try clear hb); (try clear hb2); (try clear hk); (try clear hi)) | (go_at_call 22; (with_reducible refine (safe_Clamp.calls a0 a1 a2 t266 _ A46.out).mono ?_); rintro e w50 ⟨rfl, hb⟩; have n0_ := Aside0.mk (below_step (by repeat (first | (with_reducible first | exact HB.out | apply below_alloc | apply pw_below_drewN | apply below_drew1) | exact HB.out)) hb); clear HB; have HB := n0_; clear n0_; (try clear hb); (try clear hb2); (try clear hk); (try clear hi)))
                    go_ret
                    exact ⟨by first | rfl | (simp [errW_none, errW_some] <;> rfl) | (simp [*, errW_none, errW_some] <;> rfl), by repeat (first | (with_reducible first | exact HB.out | apply below_alloc | apply pw_below_drewN | apply below_drew1) | exact HB.out)⟩
                · rw [if_neg c41] at H
                  have c41b0 : ((t264 == a0) == (decide (a0 ≤ a1))) = false := by simpa using c41
                  (try (have c41b1 : decide ((t264 == a0) = (decide (a0 ≤ a1))) = false := by simpa using c41))
                  (try (have c41b2 : ((t264 == a0) == (decide (a0 ≤ a1))) = false := by simpa using c41))
                  (try (have c41b3 : ¬ ((t264 == a0) = (decide (a0 ≤ a1))) := by simpa using c41))
                  clear c41
                  exact absurd ((Option.some.inj H).trans hr_) (by simp)
              · rw [if_neg c40] at H
                have c40b0 : decide (a2 ≤ a0) = false := decide_eq_false c40
                clear c40
                by_cases c51 : ((t264 == a0) == false) = true
                · rw [if_pos c51] at H
                  have c51b0 : ((t264 == a0) == false) = true := c51
                  (try (have c51b1 : decide ((t264 == a0) = false) = true := by simpa using c51))
                  (try (have c51b2 : ((t264 == a0) == false) = true := by simpa using c51))
                  clear c51
                  by_cases c52 : a0 ≥ a1
                  · rw [if_pos c52] at H
                    have c52b0 : decide (a1 ≤ a0) = true := decide_eq_true c52
                    clear c52
                    obtain rfl := Option.some.inj H
                    go_enter Try.func7, Try.ntmps7
                    go_wp2_with (first | ((with_reducible refine gate_callee (f := 9) rfl ?_); refine goesL_ (some 11) rfl rfl Try.func9 (by kernel_rfl) rfl #[] rfl (by (try simp only [List.map_toArray, List.map_cons, List.map_nil]); first | done | rfl | (simp only [List.length_drop, List.length_take]; rfl)) ?_; (with_reducible refine (sawtoothlaw01_awake.calls  true _ A4.out).mono ?_); rintro e w53 ⟨rfl, hb⟩; refine ⟨_, rfl, ?_⟩; have n0_ := Aside0.mk (below_step (by repeat (first | (with_reducible first | exact HB.out | apply below_alloc | apply pw_below_drewN | apply below_drew1) | exact HB.out)) hb); clear HB; have HB := n0_; clear n0_; (try clear hb); (try clear hb2); (try clear hk); (try clear hi)) | ((with_reducible refine gate_callee (f := 22) rfl ?_); refine goesL_ (some 21) rfl rfl Try.func22 (by kernel_rfl) rfl #[.int .i64 a0, .int .i64 a2, .int .i64 a1] rfl (by (try simp only [List.map_toArray, List.map_cons, List.map_nil]); first | done | rfl | (simp only [List.length_drop, List.length_take]; rfl)) ?_; (with_reducible refine (safe_Clamp.calls a0 a2 a1 t264 _ A34.out).mono ?_); rintro e w54 ⟨rfl, hb⟩; refine ⟨_, rfl, ?_⟩; have n0_ := Aside0.mk (below_step (by repeat (first | (with_reducible first | exact HB.out | apply below_alloc | apply pw_below_drewN | apply below_drew1) | exact HB.out)) hb); clear HB; have HB := n0_; clear n0_; (try clear hb); (try clear hb2); (try clear hk); (try clear hi)) | (go_at_call 22; (with_reducible refine (safe_Clamp.calls t264 a2 a1 t265 _ A38.out).mono ?_); rintro e w55 ⟨rfl, hb⟩; have n0_ := Aside0.mk (below_step (by repeat (first | (with_reducible first | exact HB.out | apply below_alloc | apply pw_below_drewN | apply below_drew1) | exact HB.out)) hb); clear HB; have HB := n0_; clear n0_; (try clear hb); (try clear hb2); (try clear hk); (try clear hi)))
                    go_ret
                    exact ⟨by first | rfl | (simp [errW_none, errW_some] <;> rfl) | (simp [*, errW_none, errW_some] <;> rfl), by repeat (first | (with_reducible first | exact HB.out | apply below_alloc | apply pw_below_drewN | apply below_drew1) | exact HB.out)⟩
                  · rw [if_neg c52] at H
                    have c52b0 : decide (a1 ≤ a0) = false := decide_eq_false c52
                    clear c52
                    replace H := Option.bind_eq_some_iff.mp H
                    obtain ⟨t267, A560, H⟩ := H
                    replace H : (some (t267 == a1)) = some r := H
                    have A56 := Aside0.mk A560
                    clear A560
                    obtain rfl := Option.some.inj H
                    go_enter Try.func7, Try.ntmps7
                    go_wp2_with (first | ((with_reducible refine gate_callee (f := 9) rfl ?_); refine goesL_ (some 11) rfl rfl Try.func9 (by kernel_rfl) rfl #[] rfl (by (try simp only [List.map_toArray, List.map_cons, List.map_nil]); first | done | rfl | (simp only [List.length_drop, List.length_take]; rfl)) ?_; (with_reducible refine (sawtoothlaw01_awake.calls  true _ A4.out).mono ?_); rintro e w57 ⟨rfl, hb⟩; refine ⟨_, rfl, ?_⟩; have n0_ := Aside0.mk (below_step (by repeat (first | (with_reducible first | exact HB.out | apply below_alloc | apply pw_below_drewN | apply below_drew1) | exact HB.out)) hb); clear HB; have HB := n0_; clear n0_; (try clear hb); (try clear hb2); (try clear hk); (try clear hi)) | ((with_reducible refine gate_callee (f := 22) rfl ?_); refine goesL_ (some 21) rfl rfl Try.func22 (by kernel_rfl) rfl #[.int .i64 a0, .int .i64 a2, .int .i64 a1] rfl (by (try simp only [List.map_toArray, List.map_cons, List.map_nil]); first | done | rfl | (simp only [List.length_drop, List.length_take]; rfl)) ?_; (with_reducible refine (safe_Clamp.calls a0 a2 a1 t264 _ A34.out).mono ?_); rintro e w58 ⟨rfl, hb⟩; refine ⟨_, rfl, ?_⟩; have n0_ := Aside0.mk (below_step (by repeat (first | (with_reducible first | exact HB.out | apply below_alloc | apply pw_below_drewN | apply below_drew1) | exact HB.out)) hb); clear HB; have HB := n0_; clear n0_; (try clear hb); (try clear hb2); (try clear hk); (try clear hi)) | (go_at_call 22; (with_reducible refine (safe_Clamp.calls t264 a2 a1 t265 _ A38.out).mono ?_); rintro e w59 ⟨rfl, hb⟩; have n0_ := Aside0.mk (below_step (by repeat (first | (with_reducible first | exact HB.out | apply below_alloc | apply pw_below_drewN | apply below_drew1) | exact HB.out)) hb); clear HB; have HB := n0_; clear n0_; (try clear hb); (try clear hb2); (try clear hk); (try clear hi)) | (go_at_call 22; (with_reducible refine (safe_Clamp.calls a0 a1 a2 t267 _ A56.out).mono ?_); rintro e w60 ⟨rfl, hb⟩; have n0_ := Aside0.mk (below_step (by repeat (first | (with_reducible first | exact HB.out | apply below_alloc | apply pw_below_drewN | apply below_drew1) | exact HB.out)) hb); clear HB; have HB := n0_; clear n0_; (try clear hb); (try clear hb2); (try clear hk); (try clear hi)))
                    go_ret
                    exact ⟨by first | rfl | (simp [errW_none, errW_some] <;> rfl) | (simp [*, errW_none, errW_some] <;> rfl), by repeat (first | (with_reducible first | exact HB.out | apply below_alloc | apply pw_below_drewN | apply below_drew1) | exact HB.out)⟩
                · rw [if_neg c51] at H
                  have c51b0 : ((t264 == a0) == false) = false := by simpa using c51
                  (try (have c51b1 : decide ((t264 == a0) = false) = false := by simpa using c51))
                  (try (have c51b2 : ((t264 == a0) == false) = false := by simpa using c51))
                  (try (have c51b3 : ¬ ((t264 == a0) = false) := by simpa using c51))
                  clear c51
                  exact absurd ((Option.some.inj H).trans hr_) (by simp)
            · rw [if_neg c39] at H
              have c39b0 : (t265 == t264) = false := beq_eq_false_iff_ne.mpr c39
              have c39b1 : (t265 != t264) = true := bne_iff_ne.mpr c39
              exact absurd ((Option.some.inj H).trans hr_) (by simp)
          · rw [if_neg c37] at H
            have c37b0 : decide (t264 ≤ a1) = false := decide_eq_false c37
            clear c37
            exact absurd ((Option.some.inj H).trans hr_) (by simp)
        · rw [if_neg c36] at H
          have c36b0 : decide (a2 ≤ t264) = false := decide_eq_false c36
          clear c36
          exact absurd ((Option.some.inj H).trans hr_) (by simp)
      · replace c35 := Bool.eq_false_iff.mpr c35
        subst c35
        have H1 : (some false) = some r := by rw [if_neg (show ¬ (false = true) by decide)] at H; exact H
        clear H
        have H := H1
        clear H1
        exact absurd ((Option.some.inj H).trans hr_) (by simp)
  · rw [if_neg c5] at H
    have c5i := eq_false c5
    have c5b0 : decide (a2 < a1) = false := decide_eq_false c5
    clear c5
    by_cases c61 : a1 < a2
    · rw [if_pos c61] at H
      have c61i := eq_true c61
      have c61b0 : decide (a1 < a2) = true := decide_eq_true c61
      clear c61
      replace H := Option.bind_eq_some_iff.mp H
      obtain ⟨t268, A620, H⟩ := H
      replace H : (if t259 = true then (if t268 ≥ a1 then (if t268 ≤ a2 then ((safe_Clamp.f t268 a1 a2).bind fun t269 => (if t269 = t268 then (if a0 ≥ a1 then (if ((t268 == a0) == (decide (a0 ≤ a2))) = true then (some true) else (some false)) else (if ((t268 == a0) == false) = true then ((safe_Clamp.f a0 a1 a2).bind fun t270 => (some (t270 == a1))) else (some false))) else (some false))) else (some false)) else (some false)) else (some false)) = some r := H
      have A62 := Aside0.mk A620
      clear A620
      by_cases c63 : t259 = true
      · subst c63
        have H1 : (if t268 ≥ a1 then (if t268 ≤ a2 then ((safe_Clamp.f t268 a1 a2).bind fun t269 => (if t269 = t268 then (if a0 ≥ a1 then (if ((t268 == a0) == (decide (a0 ≤ a2))) = true then (some true) else (some false)) else (if ((t268 == a0) == false) = true then ((safe_Clamp.f a0 a1 a2).bind fun t270 => (some (t270 == a1))) else (some false))) else (some false))) else (some false)) else (some false)) = some r := by rw [if_pos rfl] at H; exact H
        clear H
        have H := H1
        clear H1
        by_cases c64 : t268 ≥ a1
        · rw [if_pos c64] at H
          have c64b0 : decide (a1 ≤ t268) = true := decide_eq_true c64
          clear c64
          by_cases c65 : t268 ≤ a2
          · rw [if_pos c65] at H
            have c65b0 : decide (t268 ≤ a2) = true := decide_eq_true c65
            clear c65
            replace H := Option.bind_eq_some_iff.mp H
            obtain ⟨t269, A660, H⟩ := H
            replace H : (if t269 = t268 then (if a0 ≥ a1 then (if ((t268 == a0) == (decide (a0 ≤ a2))) = true then (some true) else (some false)) else (if ((t268 == a0) == false) = true then ((safe_Clamp.f a0 a1 a2).bind fun t270 => (some (t270 == a1))) else (some false))) else (some false)) = some r := H
            have A66 := Aside0.mk A660
            clear A660
            by_cases c67 : t269 = t268
            · rw [if_pos c67] at H
              have c67b0 : (t269 == t268) = true := beq_iff_eq.mpr c67
              have c67b1 : (t269 != t268) = false := bne_eq_false_iff_eq.mpr c67
              clear c67
              by_cases c68 : a0 ≥ a1
              · rw [if_pos c68] at H
                have c68b0 : decide (a1 ≤ a0) = true := decide_eq_true c68
                clear c68
                by_cases c69 : ((t268 == a0) == (decide (a0 ≤ a2))) = true
                · rw [if_pos c69] at H
                  have c69b0 : ((t268 == a0) == (decide (a0 ≤ a2))) = true := c69
                  (try (have c69b1 : decide ((t268 == a0) = (decide (a0 ≤ a2))) = true := by simpa using c69))
                  (try (have c69b2 : ((t268 == a0) == (decide (a0 ≤ a2))) = true := by simpa using c69))
                  clear c69
                  obtain rfl := Option.some.inj H
                  go_enter Try.func7, Try.ntmps7
                  go_wp2_with (first | ((with_reducible refine gate_callee (f := 9) rfl ?_); refine goesL_ (some 11) rfl rfl Try.func9 (by kernel_rfl) rfl #[] rfl (by (try simp only [List.map_toArray, List.map_cons, List.map_nil]); first | done | rfl | (simp only [List.length_drop, List.length_take]; rfl)) ?_; (with_reducible refine (sawtoothlaw01_awake.calls  true _ A4.out).mono ?_); rintro e w70 ⟨rfl, hb⟩; refine ⟨_, rfl, ?_⟩; have n0_ := Aside0.mk (below_step (by repeat (first | (with_reducible first | exact HB.out | apply below_alloc | apply pw_below_drewN | apply below_drew1) | exact HB.out)) hb); clear HB; have HB := n0_; clear n0_; (try clear hb); (try clear hb2); (try clear hk); (try clear hi)) | ((with_reducible refine gate_callee (f := 22) rfl ?_); refine goesL_ (some 21) rfl rfl Try.func22 (by kernel_rfl) rfl #[.int .i64 a0, .int .i64 a1, .int .i64 a2] rfl (by (try simp only [List.map_toArray, List.map_cons, List.map_nil]); first | done | rfl | (simp only [List.length_drop, List.length_take]; rfl)) ?_; (with_reducible refine (safe_Clamp.calls a0 a1 a2 t268 _ A62.out).mono ?_); rintro e w71 ⟨rfl, hb⟩; refine ⟨_, rfl, ?_⟩; have n0_ := Aside0.mk (below_step (by repeat (first | (with_reducible first | exact HB.out | apply below_alloc | apply pw_below_drewN | apply below_drew1) | exact HB.out)) hb); clear HB; have HB := n0_; clear n0_; (try clear hb); (try clear hb2); (try clear hk); (try clear hi)) | (go_at_call 22; (with_reducible refine (safe_Clamp.calls t268 a1 a2 t269 _ A66.out).mono ?_); rintro e w72 ⟨rfl, hb⟩; have n0_ := Aside0.mk (below_step (by repeat (first | (with_reducible first | exact HB.out | apply below_alloc | apply pw_below_drewN | apply below_drew1) | exact HB.out)) hb); clear HB; have HB := n0_; clear n0_; (try clear hb); (try clear hb2); (try clear hk); (try clear hi)))
                  go_ret
                  exact ⟨by first | rfl | (simp [errW_none, errW_some] <;> rfl) | (simp [*, errW_none, errW_some] <;> rfl), by repeat (first | (with_reducible first | exact HB.out | apply below_alloc | apply pw_below_drewN | apply below_drew1) | exact HB.out)⟩
                · rw [if_neg c69] at H
                  have c69b0 : ((t268 == a0) == (decide (a0 ≤ a2))) = false := by simpa using c69
                  (try (have c69b1 : decide ((t268 == a0) = (decide (a0 ≤ a2))) = false := by simpa using c69))
                  (try (have c69b2 : ((t268 == a0) == (decide (a0 ≤ a2))) = false := by simpa using c69))
                  (try (have c69b3 : ¬ ((t268 == a0) = (decide (a0 ≤ a2))) := by simpa using c69))
                  clear c69
                  exact absurd ((Option.some.inj H).trans hr_) (by simp)
              · rw [if_neg c68] at H
                have c68b0 : decide (a1 ≤ a0) = false := decide_eq_false c68
                clear c68
                by_cases c73 : ((t268 == a0) == false) = true
                · rw [if_pos c73] at H
                  have c73b0 : ((t268 == a0) == false) = true := c73
                  (try (have c73b1 : decide ((t268 == a0) = false) = true := by simpa using c73))
                  (try (have c73b2 : ((t268 == a0) == false) = true := by simpa using c73))
                  clear c73
                  replace H := Option.bind_eq_some_iff.mp H
                  obtain ⟨t270, A740, H⟩ := H
                  replace H : (some (t270 == a1)) = some r := H
                  have A74 := Aside0.mk A740
                  clear A740
                  have e_ := Option.some.inj (A62.out.symm.trans A74.out)
                  obtain rfl := e_
                  replace H : (some (t268 == a1)) = some r := H
                  obtain rfl := Option.some.inj H
                  go_enter Try.func7, Try.ntmps7
                  go_wp2_with (first | ((with_reducible refine gate_callee (f := 9) rfl ?_); refine goesL_ (some 11) rfl rfl Try.func9 (by kernel_rfl) rfl #[] rfl (by (try simp only [List.map_toArray, List.map_cons, List.map_nil]); first | done | rfl | (simp only [List.length_drop, List.length_take]; rfl)) ?_; (with_reducible refine (sawtoothlaw01_awake.calls  true _ A4.out).mono ?_); rintro e w75 ⟨rfl, hb⟩; refine ⟨_, rfl, ?_⟩; have n0_ := Aside0.mk (below_step (by repeat (first | (with_reducible first | exact HB.out | apply below_alloc | apply pw_below_drewN | apply below_drew1) | exact HB.out)) hb); clear HB; have HB := n0_; clear n0_; (try clear hb); (try clear hb2); (try clear hk); (try clear hi)) | ((with_reducible refine gate_callee (f := 22) rfl ?_); refine goesL_ (some 21) rfl rfl Try.func22 (by kernel_rfl) rfl #[.int .i64 a0, .int .i64 a1, .int .i64 a2] rfl (by (try simp only [List.map_toArray, List.map_cons, List.map_nil]); first | done | rfl | (simp only [List.length_drop, List.length_take]; rfl)) ?_; (with_reducible refine (safe_Clamp.calls a0 a1 a2 t268 _ A62.out).mono ?_); rintro e w76 ⟨rfl, hb⟩; refine ⟨_, rfl, ?_⟩; have n0_ := Aside0.mk (below_step (by repeat (first | (with_reducible first | exact HB.out | apply below_alloc | apply pw_below_drewN | apply below_drew1) | exact HB.out)) hb); clear HB; have HB := n0_; clear n0_; (try clear hb); (try clear hb2); (try clear hk); (try clear hi)) | (go_at_call 22; (with_reducible refine (safe_Clamp.calls t268 a1 a2 t269 _ A66.out).mono ?_); rintro e w77 ⟨rfl, hb⟩; have n0_ := Aside0.mk (below_step (by repeat (first | (with_reducible first | exact HB.out | apply below_alloc | apply pw_below_drewN | apply below_drew1) | exact HB.out)) hb); clear HB; have HB := n0_; clear n0_; (try clear hb); (try clear hb2); (try clear hk); (try clear hi)) | (go_at_call 22; (with_reducible refine (safe_Clamp.calls a0 a1 a2 t268 _ A74.out).mono ?_); rintro e w78 ⟨rfl, hb⟩; have n0_ := Aside0.mk (below_step (by repeat (first | (with_reducible first | exact HB.out | apply below_alloc | apply pw_below_drewN | apply below_drew1) | exact HB.out)) hb); clear HB; have HB := n0_; clear n0_; (try clear hb); (try clear hb2); (try clear hk); (try clear hi)))
                  go_ret
                  exact ⟨by first | rfl | (simp [errW_none, errW_some] <;> rfl) | (simp [*, errW_none, errW_some] <;> rfl), by repeat (first | (with_reducible first | exact HB.out | apply below_alloc | apply pw_below_drewN | apply below_drew1) | exact HB.out)⟩
                · rw [if_neg c73] at H
                  have c73b0 : ((t268 == a0) == false) = false := by simpa using c73
                  (try (have c73b1 : decide ((t268 == a0) = false) = false := by simpa using c73))
                  (try (have c73b2 : ((t268 == a0) == false) = false := by simpa using c73))
                  (try (have c73b3 : ¬ ((t268 == a0) = false) := by simpa using c73))
                  clear c73
                  exact absurd ((Option.some.inj H).trans hr_) (by simp)
            · rw [if_neg c67] at H
              have c67b0 : (t269 == t268) = false := beq_eq_false_iff_ne.mpr c67
              have c67b1 : (t269 != t268) = true := bne_iff_ne.mpr c67
              exact absurd ((Option.some.inj H).trans hr_) (by simp)
          · rw [if_neg c65] at H
            have c65b0 : decide (t268 ≤ a2) = false := decide_eq_false c65
            clear c65
            exact absurd ((Option.some.inj H).trans hr_) (by simp)
        · rw [if_neg c64] at H
          have c64b0 : decide (a1 ≤ t268) = false := decide_eq_false c64
          clear c64
          exact absurd ((Option.some.inj H).trans hr_) (by simp)
      · replace c63 := Bool.eq_false_iff.mpr c63
        subst c63
        have H1 : (some false) = some r := by rw [if_neg (show ¬ (false = true) by decide)] at H; exact H
        clear H
        have H := H1
        clear H1
        exact absurd ((Option.some.inj H).trans hr_) (by simp)
    · rw [if_neg c61] at H
      have c61i := eq_false c61
      have c61b0 : decide (a1 < a2) = false := decide_eq_false c61
      clear c61
      replace H := Option.bind_eq_some_iff.mp H
      obtain ⟨t271, A790, H⟩ := H
      replace H : (if t259 = true then (if t271 ≥ a1 then (if t271 ≤ a1 then ((safe_Clamp.f t271 a1 a1).bind fun t272 => (if t272 = t271 then (if a0 ≥ a1 then (if ((t271 == a0) == (decide (a0 ≤ a1))) = true then (some true) else (some false)) else (if ((t271 == a0) == false) = true then ((safe_Clamp.f a0 a1 a2).bind fun t273 => (some (t273 == a1))) else (some false))) else (some false))) else (some false)) else (some false)) else (some false)) = some r := H
      have A79 := Aside0.mk A790
      clear A790
      by_cases c80 : t259 = true
      · subst c80
        have H1 : (if t271 ≥ a1 then (if t271 ≤ a1 then ((safe_Clamp.f t271 a1 a1).bind fun t272 => (if t272 = t271 then (if a0 ≥ a1 then (if ((t271 == a0) == (decide (a0 ≤ a1))) = true then (some true) else (some false)) else (if ((t271 == a0) == false) = true then ((safe_Clamp.f a0 a1 a2).bind fun t273 => (some (t273 == a1))) else (some false))) else (some false))) else (some false)) else (some false)) = some r := by rw [if_pos rfl] at H; exact H
        clear H
        have H := H1
        clear H1
        by_cases c81 : t271 ≥ a1
        · rw [if_pos c81] at H
          have c81b0 : decide (a1 ≤ t271) = true := decide_eq_true c81
          clear c81
          by_cases c82 : t271 ≤ a1
          · rw [if_pos c82] at H
            have c82b0 : decide (t271 ≤ a1) = true := decide_eq_true c82
            clear c82
            replace H := Option.bind_eq_some_iff.mp H
            obtain ⟨t272, A830, H⟩ := H
            replace H : (if t272 = t271 then (if a0 ≥ a1 then (if ((t271 == a0) == (decide (a0 ≤ a1))) = true then (some true) else (some false)) else (if ((t271 == a0) == false) = true then ((safe_Clamp.f a0 a1 a2).bind fun t273 => (some (t273 == a1))) else (some false))) else (some false)) = some r := H
            have A83 := Aside0.mk A830
            clear A830
            by_cases c84 : t272 = t271
            · rw [if_pos c84] at H
              have c84b0 : (t272 == t271) = true := beq_iff_eq.mpr c84
              have c84b1 : (t272 != t271) = false := bne_eq_false_iff_eq.mpr c84
              clear c84
              by_cases c85 : a0 ≥ a1
              · rw [if_pos c85] at H
                have c85b0 : decide (a1 ≤ a0) = true := decide_eq_true c85
                clear c85
                by_cases c86 : ((t271 == a0) == (decide (a0 ≤ a1))) = true
                · rw [if_pos c86] at H
                  have c86b0 : ((t271 == a0) == (decide (a0 ≤ a1))) = true := c86
                  (try (have c86b1 : decide ((t271 == a0) = (decide (a0 ≤ a1))) = true := by simpa using c86))
                  (try (have c86b2 : ((t271 == a0) == (decide (a0 ≤ a1))) = true := by simpa using c86))
                  clear c86
                  obtain rfl := Option.some.inj H
                  go_enter Try.func7, Try.ntmps7
                  go_wp2_with (first | ((with_reducible refine gate_callee (f := 9) rfl ?_); refine goesL_ (some 11) rfl rfl Try.func9 (by kernel_rfl) rfl #[] rfl (by (try simp only [List.map_toArray, List.map_cons, List.map_nil]); first | done | rfl | (simp only [List.length_drop, List.length_take]; rfl)) ?_; (with_reducible refine (sawtoothlaw01_awake.calls  true _ A4.out).mono ?_); rintro e w87 ⟨rfl, hb⟩; refine ⟨_, rfl, ?_⟩; have n0_ := Aside0.mk (below_step (by repeat (first | (with_reducible first | exact HB.out | apply below_alloc | apply pw_below_drewN | apply below_drew1) | exact HB.out)) hb); clear HB; have HB := n0_; clear n0_; (try clear hb); (try clear hb2); (try clear hk); (try clear hi)) | ((with_reducible refine gate_callee (f := 22) rfl ?_); refine goesL_ (some 21) rfl rfl Try.func22 (by kernel_rfl) rfl #[.int .i64 a0, .int .i64 a1, .int .i64 a1] rfl (by (try simp only [List.map_toArray, List.map_cons, List.map_nil]); first | done | rfl | (simp only [List.length_drop, List.length_take]; rfl)) ?_; (with_reducible refine (safe_Clamp.calls a0 a1 a1 t271 _ A79.out).mono ?_); rintro e w88 ⟨rfl, hb⟩; refine ⟨_, rfl, ?_⟩; have n0_ := Aside0.mk (below_step (by repeat (first | (with_reducible first | exact HB.out | apply below_alloc | apply pw_below_drewN | apply below_drew1) | exact HB.out)) hb); clear HB; have HB := n0_; clear n0_; (try clear hb); (try clear hb2); (try clear hk); (try clear hi)) | (go_at_call 22; (with_reducible refine (safe_Clamp.calls t271 a1 a1 t272 _ A83.out).mono ?_); rintro e w89 ⟨rfl, hb⟩; have n0_ := Aside0.mk (below_step (by repeat (first | (with_reducible first | exact HB.out | apply below_alloc | apply pw_below_drewN | apply below_drew1) | exact HB.out)) hb); clear HB; have HB := n0_; clear n0_; (try clear hb); (try clear hb2); (try clear hk); (try clear hi)))
                  go_ret
                  exact ⟨by first | rfl | (simp [errW_none, errW_some] <;> rfl) | (simp [*, errW_none, errW_some] <;> rfl), by repeat (first | (with_reducible first | exact HB.out | apply below_alloc | apply pw_below_drewN | apply below_drew1) | exact HB.out)⟩
                · rw [if_neg c86] at H
                  have c86b0 : ((t271 == a0) == (decide (a0 ≤ a1))) = false := by simpa using c86
                  (try (have c86b1 : decide ((t271 == a0) = (decide (a0 ≤ a1))) = false := by simpa using c86))
                  (try (have c86b2 : ((t271 == a0) == (decide (a0 ≤ a1))) = false := by simpa using c86))
                  (try (have c86b3 : ¬ ((t271 == a0) = (decide (a0 ≤ a1))) := by simpa using c86))
                  clear c86
                  exact absurd ((Option.some.inj H).trans hr_) (by simp)
              · rw [if_neg c85] at H
                have c85b0 : decide (a1 ≤ a0) = false := decide_eq_false c85
                clear c85
                by_cases c90 : ((t271 == a0) == false) = true
                · rw [if_pos c90] at H
                  have c90b0 : ((t271 == a0) == false) = true := c90
                  (try (have c90b1 : decide ((t271 == a0) = false) = true := by simpa using c90))
                  (try (have c90b2 : ((t271 == a0) == false) = true := by simpa using c90))
                  clear c90
                  replace H := Option.bind_eq_some_iff.mp H
                  obtain ⟨t273, A910, H⟩ := H
                  replace H : (some (t273 == a1)) = some r := H
                  have A91 := Aside0.mk A910
                  clear A910
                  obtain rfl := Option.some.inj H
                  go_enter Try.func7, Try.ntmps7
                  go_wp2_with (first | ((with_reducible refine gate_callee (f := 9) rfl ?_); refine goesL_ (some 11) rfl rfl Try.func9 (by kernel_rfl) rfl #[] rfl (by (try simp only [List.map_toArray, List.map_cons, List.map_nil]); first | done | rfl | (simp only [List.length_drop, List.length_take]; rfl)) ?_; (with_reducible refine (sawtoothlaw01_awake.calls  true _ A4.out).mono ?_); rintro e w92 ⟨rfl, hb⟩; refine ⟨_, rfl, ?_⟩; have n0_ := Aside0.mk (below_step (by repeat (first | (with_reducible first | exact HB.out | apply below_alloc | apply pw_below_drewN | apply below_drew1) | exact HB.out)) hb); clear HB; have HB := n0_; clear n0_; (try clear hb); (try clear hb2); (try clear hk); (try clear hi)) | ((with_reducible refine gate_callee (f := 22) rfl ?_); refine goesL_ (some 21) rfl rfl Try.func22 (by kernel_rfl) rfl #[.int .i64 a0, .int .i64 a1, .int .i64 a1] rfl (by (try simp only [List.map_toArray, List.map_cons, List.map_nil]); first | done | rfl | (simp only [List.length_drop, List.length_take]; rfl)) ?_; (with_reducible refine (safe_Clamp.calls a0 a1 a1 t271 _ A79.out).mono ?_); rintro e w93 ⟨rfl, hb⟩; refine ⟨_, rfl, ?_⟩; have n0_ := Aside0.mk (below_step (by repeat (first | (with_reducible first | exact HB.out | apply below_alloc | apply pw_below_drewN | apply below_drew1) | exact HB.out)) hb); clear HB; have HB := n0_; clear n0_; (try clear hb); (try clear hb2); (try clear hk); (try clear hi)) | (go_at_call 22; (with_reducible refine (safe_Clamp.calls t271 a1 a1 t272 _ A83.out).mono ?_); rintro e w94 ⟨rfl, hb⟩; have n0_ := Aside0.mk (below_step (by repeat (first | (with_reducible first | exact HB.out | apply below_alloc | apply pw_below_drewN | apply below_drew1) | exact HB.out)) hb); clear HB; have HB := n0_; clear n0_; (try clear hb); (try clear hb2); (try clear hk); (try clear hi)) | (go_at_call 22; (with_reducible refine (safe_Clamp.calls a0 a1 a2 t273 _ A91.out).mono ?_); rintro e w95 ⟨rfl, hb⟩; have n0_ := Aside0.mk (below_step (by repeat (first | (with_reducible first | exact HB.out | apply below_alloc | apply pw_below_drewN | apply below_drew1) | exact HB.out)) hb); clear HB; have HB := n0_; clear n0_; (try clear hb); (try clear hb2); (try clear hk); (try clear hi)))
                  go_ret
                  exact ⟨by first | rfl | (simp [errW_none, errW_some] <;> rfl) | (simp [*, errW_none, errW_some] <;> rfl), by repeat (first | (with_reducible first | exact HB.out | apply below_alloc | apply pw_below_drewN | apply below_drew1) | exact HB.out)⟩
                · rw [if_neg c90] at H
                  have c90b0 : ((t271 == a0) == false) = false := by simpa using c90
                  (try (have c90b1 : decide ((t271 == a0) = false) = false := by simpa using c90))
                  (try (have c90b2 : ((t271 == a0) == false) = false := by simpa using c90))
                  (try (have c90b3 : ¬ ((t271 == a0) = false) := by simpa using c90))
                  clear c90
                  exact absurd ((Option.some.inj H).trans hr_) (by simp)
            · rw [if_neg c84] at H
              have c84b0 : (t272 == t271) = false := beq_eq_false_iff_ne.mpr c84
              have c84b1 : (t272 != t271) = true := bne_iff_ne.mpr c84
              exact absurd ((Option.some.inj H).trans hr_) (by simp)
          · rw [if_neg c82] at H
            have c82b0 : decide (t271 ≤ a1) = false := decide_eq_false c82
            clear c82
            exact absurd ((Option.some.inj H).trans hr_) (by simp)
        · rw [if_neg c81] at H
          have c81b0 : decide (a1 ≤ t271) = false := decide_eq_false c81
          clear c81
          exact absurd ((Option.some.inj H).trans hr_) (by simp)
      · replace c80 := Bool.eq_false_iff.mpr c80
        subst c80
        have H1 : (some false) = some r := by rw [if_neg (show ¬ (false = true) by decide)] at H; exact H
        clear H
        have H := H1
        clear H1
        exact absurd ((Option.some.inj H).trans hr_) (by simp)

/-- THE ONE PURE STATEMENT of sawtoothlaw01_SafeClamps: yours. -/
def sawtoothlaw01_SafeClamps.Pure : Prop := ∀ (a0 : Int) (a1 : Int) (a2 : Int), (Lit.int .i64 a0).wf = true → (Lit.int .i64 a1).wf = true → (Lit.int .i64 a2).wf = true → sawtoothlaw01_SafeClamps.f a0 a1 a2 = some true
theorem sawtoothlaw01_SafeClamps.walk (P : sawtoothlaw01_SafeClamps.Pure) (a0 : Int) (a1 : Int) (a2 : Int) (w : World) (w0 : (Lit.int .i64 a0).wf = true) (w1 : (Lit.int .i64 a1).wf = true) (w2 : (Lit.int .i64 a2).wf = true) :
    Calls Try.prog 7 #[.int .i64 a0, .int .i64 a1, .int .i64 a2] w fun e w' => e = .returned (.bool true) ∧ Below w.heap.size w w' := by
  have h := P a0 a1 a2 w0 w1 w2
  refine (sawtoothlaw01_SafeClamps.calls a0 a1 a2 true w h rfl).mono ?_
  rintro e w' ⟨rfl, hd⟩
  exact ⟨rfl, hd⟩

end Go.Proofs.Ytdgnhmghniloiaa.Hp
