/- Functions of the program as Lean functions, each with its contract: the call comes to that answer. Told by wip/tools/handprint.py of this session. -/
import Derived.Test.YtdgnhmghniloiaaHpx0
import Derived.Test.YtdgnhmghniloiaaHpx1
import Derived.Test.YtdgnhmghniloiaaHpx3
import Derived.Test.YtdgnhmghniloiaaHpx4
namespace Go.Proofs.Ytdgnhmghniloiaa.Hp
open Go.RowKit Go.Proofs.YtdgnhmghniloiaaW.PrintWords Go.Proofs.YtdgnhmghniloiaaW.PrintLast Go.Proofs.YtdgnhmghniloiaaW.PrintMore
attribute [local go_sem] max2_int min2_int max_two min_two max_three min_three max_four min_four   -- for this text's walks alone
set_option linter.unusedVariables false
set_option linter.unusedSimpArgs false

/-! ### sawtoothlaw01_SafeParts: function 8 -/
def sawtoothlaw01_SafeParts.j0 : Nat → Int → Int → Bool → Int → Bool → Option (Bool)
  | 0, _, _, _, _, _ => none
  | k + 1, x1, x2, x13, x14, x21 => if x13 = true then (if x21 = true then ((safe_Add.f (wrap64 (x1)) (wrap64 (x2))).bind fun t283 => ((safe_Mul.f x14 t283).bind fun t284 => ((safe_Mul.f x14 (wrap64 (x1))).bind fun t285 => ((safe_Mul.f x14 (wrap64 (x2))).bind fun t286 => ((safe_Add.f t285 t286).bind fun t287 => (some (t284 == t287))))))) else (some false)) else (some false)
def sawtoothlaw01_SafeParts.f (k : Nat) (a0 : Int) (a1 : Int) (a2 : Int) (a3 : Int) (a4 : Int) (a5 : Int) : Option (Bool) := (sawtoothlaw01_awake.f).bind fun t274 => ((safe_Plus.f a3 a4).bind fun bt275 => ((safe_Plus.f bt275.1 a5).bind fun bt277 => ((safe_Plus.f a4 a5).bind fun bt279 => ((safe_Plus.f a3 bt279.1).bind fun bt281 => (if bt275.2 = 0 then (if bt277.2 = 0 then (if bt279.2 = 0 then (if bt281.2 = 0 then (sawtoothlaw01_SafeParts.j0 k a1 a2 t274 (wrap64 (a0)) (bt277.1 == bt281.1)) else (sawtoothlaw01_SafeParts.j0 k a1 a2 t274 (wrap64 (a0)) true)) else (sawtoothlaw01_SafeParts.j0 k a1 a2 t274 (wrap64 (a0)) true)) else (sawtoothlaw01_SafeParts.j0 k a1 a2 t274 (wrap64 (a0)) true)) else (sawtoothlaw01_SafeParts.j0 k a1 a2 t274 (wrap64 (a0)) true))))))
theorem sawtoothlaw01_SafeParts.mono_l : ∀ k, (∀ y0 y1 y2 y3 y4, LeO (sawtoothlaw01_SafeParts.j0 k y0 y1 y2 y3 y4) (sawtoothlaw01_SafeParts.j0 (k + 1) y0 y1 y2 y3 y4))
  | 0 => fun _ _ _ _ _ r h => by simp [sawtoothlaw01_SafeParts.j0] at h
  | k + 1 => by
    have ih0 := sawtoothlaw01_SafeParts.mono_l k
    · intro y0 y1 y2 y3 y4
      unfold sawtoothlaw01_SafeParts.j0
      repeat' first
      | (with_reducible exact ih0 _ _ _ _ _)
      | (with_reducible exact LeO.refl _)
      | (with_reducible exact LeO.none _)
      | (with_reducible refine LeO.ite ?_ ?_)
      | (with_reducible refine LeO.bind ?_ (fun _ => ?_))
      | exact ih0 _ _ _ _ _
      | exact LeO.none _
      | refine LeO.ite ?_ ?_
      | refine LeO.bind ?_ (fun _ => ?_)
theorem sawtoothlaw01_SafeParts.mono : ∀ a0 a1 a2 a3 a4 a5 k, LeO (sawtoothlaw01_SafeParts.f k a0 a1 a2 a3 a4 a5) (sawtoothlaw01_SafeParts.f (k + 1) a0 a1 a2 a3 a4 a5) := by
  intro a0 a1 a2 a3 a4 a5 k
  have ih0 := sawtoothlaw01_SafeParts.mono_l k
  unfold sawtoothlaw01_SafeParts.f
  repeat' first
      | (with_reducible exact ih0 _ _ _ _ _)
      | (with_reducible exact LeO.refl _)
      | (with_reducible exact LeO.none _)
      | (with_reducible refine LeO.ite ?_ ?_)
      | (with_reducible refine LeO.bind ?_ (fun _ => ?_))
      | exact ih0 _ _ _ _ _
      | exact LeO.none _
      | refine LeO.ite ?_ ?_
      | refine LeO.bind ?_ (fun _ => ?_)
set_option maxHeartbeats 8000000 in
set_option maxRecDepth 100000 in
theorem sawtoothlaw01_SafeParts.calls (k : Nat) (a0 : Int) (a1 : Int) (a2 : Int) (a3 : Int) (a4 : Int) (a5 : Int) (r : Bool) (w : World) (h : sawtoothlaw01_SafeParts.f k a0 a1 a2 a3 a4 a5 = some r) (hr_ : r = true) :
    Calls Try.prog 8 #[.int .i32 a0, .int .i32 a1, .int .i32 a2, .int .i64 a3, .int .i64 a4, .int .i64 a5] w fun e w' => e = .returned (.bool r) ∧ Below w.heap.size w w' := by
  have HB := Aside0.mk (Below.refl w.heap.size w)
  have H : ((sawtoothlaw01_awake.f).bind fun t274 => ((safe_Plus.f a3 a4).bind fun bt275 => ((safe_Plus.f bt275.1 a5).bind fun bt277 => ((safe_Plus.f a4 a5).bind fun bt279 => ((safe_Plus.f a3 bt279.1).bind fun bt281 => (if bt275.2 = 0 then (if bt277.2 = 0 then (if bt279.2 = 0 then (if bt281.2 = 0 then (sawtoothlaw01_SafeParts.j0 k a1 a2 t274 (wrap64 (a0)) (bt277.1 == bt281.1)) else (sawtoothlaw01_SafeParts.j0 k a1 a2 t274 (wrap64 (a0)) true)) else (sawtoothlaw01_SafeParts.j0 k a1 a2 t274 (wrap64 (a0)) true)) else (sawtoothlaw01_SafeParts.j0 k a1 a2 t274 (wrap64 (a0)) true)) else (sawtoothlaw01_SafeParts.j0 k a1 a2 t274 (wrap64 (a0)) true))))))) = some r := h
  clear h
  replace H := Option.bind_eq_some_iff.mp H
  obtain ⟨t274, A70, H⟩ := H
  replace H : ((safe_Plus.f a3 a4).bind fun bt275 => ((safe_Plus.f bt275.1 a5).bind fun bt277 => ((safe_Plus.f a4 a5).bind fun bt279 => ((safe_Plus.f a3 bt279.1).bind fun bt281 => (if bt275.2 = 0 then (if bt277.2 = 0 then (if bt279.2 = 0 then (if bt281.2 = 0 then (sawtoothlaw01_SafeParts.j0 k a1 a2 t274 (wrap64 (a0)) (bt277.1 == bt281.1)) else (sawtoothlaw01_SafeParts.j0 k a1 a2 t274 (wrap64 (a0)) true)) else (sawtoothlaw01_SafeParts.j0 k a1 a2 t274 (wrap64 (a0)) true)) else (sawtoothlaw01_SafeParts.j0 k a1 a2 t274 (wrap64 (a0)) true)) else (sawtoothlaw01_SafeParts.j0 k a1 a2 t274 (wrap64 (a0)) true)))))) = some r := H
  have A7 := Aside0.mk A70
  clear A70
  replace H := Option.bind_eq_some_iff.mp H
  obtain ⟨⟨t275, t276⟩, A80, H⟩ := H
  replace H : ((safe_Plus.f t275 a5).bind fun bt277 => ((safe_Plus.f a4 a5).bind fun bt279 => ((safe_Plus.f a3 bt279.1).bind fun bt281 => (if t276 = 0 then (if bt277.2 = 0 then (if bt279.2 = 0 then (if bt281.2 = 0 then (sawtoothlaw01_SafeParts.j0 k a1 a2 t274 (wrap64 (a0)) (bt277.1 == bt281.1)) else (sawtoothlaw01_SafeParts.j0 k a1 a2 t274 (wrap64 (a0)) true)) else (sawtoothlaw01_SafeParts.j0 k a1 a2 t274 (wrap64 (a0)) true)) else (sawtoothlaw01_SafeParts.j0 k a1 a2 t274 (wrap64 (a0)) true)) else (sawtoothlaw01_SafeParts.j0 k a1 a2 t274 (wrap64 (a0)) true))))) = some r := H
  have A8 := Aside0.mk A80
  clear A80
  replace H := Option.bind_eq_some_iff.mp H
  obtain ⟨⟨t277, t278⟩, A90, H⟩ := H
  replace H : ((safe_Plus.f a4 a5).bind fun bt279 => ((safe_Plus.f a3 bt279.1).bind fun bt281 => (if t276 = 0 then (if t278 = 0 then (if bt279.2 = 0 then (if bt281.2 = 0 then (sawtoothlaw01_SafeParts.j0 k a1 a2 t274 (wrap64 (a0)) (t277 == bt281.1)) else (sawtoothlaw01_SafeParts.j0 k a1 a2 t274 (wrap64 (a0)) true)) else (sawtoothlaw01_SafeParts.j0 k a1 a2 t274 (wrap64 (a0)) true)) else (sawtoothlaw01_SafeParts.j0 k a1 a2 t274 (wrap64 (a0)) true)) else (sawtoothlaw01_SafeParts.j0 k a1 a2 t274 (wrap64 (a0)) true)))) = some r := H
  have A9 := Aside0.mk A90
  clear A90
  replace H := Option.bind_eq_some_iff.mp H
  obtain ⟨⟨t279, t280⟩, A100, H⟩ := H
  replace H : ((safe_Plus.f a3 t279).bind fun bt281 => (if t276 = 0 then (if t278 = 0 then (if t280 = 0 then (if bt281.2 = 0 then (sawtoothlaw01_SafeParts.j0 k a1 a2 t274 (wrap64 (a0)) (t277 == bt281.1)) else (sawtoothlaw01_SafeParts.j0 k a1 a2 t274 (wrap64 (a0)) true)) else (sawtoothlaw01_SafeParts.j0 k a1 a2 t274 (wrap64 (a0)) true)) else (sawtoothlaw01_SafeParts.j0 k a1 a2 t274 (wrap64 (a0)) true)) else (sawtoothlaw01_SafeParts.j0 k a1 a2 t274 (wrap64 (a0)) true))) = some r := H
  have A10 := Aside0.mk A100
  clear A100
  replace H := Option.bind_eq_some_iff.mp H
  obtain ⟨⟨t281, t282⟩, A110, H⟩ := H
  replace H : (if t276 = 0 then (if t278 = 0 then (if t280 = 0 then (if t282 = 0 then (sawtoothlaw01_SafeParts.j0 k a1 a2 t274 (wrap64 (a0)) (t277 == t281)) else (sawtoothlaw01_SafeParts.j0 k a1 a2 t274 (wrap64 (a0)) true)) else (sawtoothlaw01_SafeParts.j0 k a1 a2 t274 (wrap64 (a0)) true)) else (sawtoothlaw01_SafeParts.j0 k a1 a2 t274 (wrap64 (a0)) true)) else (sawtoothlaw01_SafeParts.j0 k a1 a2 t274 (wrap64 (a0)) true)) = some r := H
  have A11 := Aside0.mk A110
  clear A110
  have HC12 := Aside0.mk H
  clear H
  go_enter Try.func8, Try.ntmps8
  go_upto_region 7 with (first | ((with_reducible refine gate_callee (f := 9) rfl ?_); refine goesL_ (some 22) rfl rfl Try.func9 (by kernel_rfl) rfl #[] rfl (by (try simp only [List.map_toArray, List.map_cons, List.map_nil]); first | done | rfl | (simp only [List.length_drop, List.length_take]; rfl)) ?_; (with_reducible refine (sawtoothlaw01_awake.calls  t274 _ A7.out).mono ?_); rintro e w13 ⟨rfl, hb⟩; refine ⟨_, rfl, ?_⟩; have n0_ := Aside0.mk (below_step (by repeat (first | (with_reducible first | exact HB.out | apply below_alloc | apply pw_below_drewN | apply below_drew1) | exact HB.out)) hb); clear HB; have HB := n0_; clear n0_; (try clear hb); (try clear hb2); (try clear hk); (try clear hi)) | ((with_reducible refine gate_callee (f := 10) rfl ?_); refine goesL_ (some 28) rfl rfl Try.func10 (by kernel_rfl) rfl #[.int .i64 a3, .int .i64 a4] rfl (by (try simp only [List.map_toArray, List.map_cons, List.map_nil]); first | done | rfl | (simp only [List.length_drop, List.length_take]; rfl)) ?_; (with_reducible refine (safe_Plus.calls a3 a4 t275 t276 _ A8.out).mono ?_); rintro e w' ⟨rfl, ⟨nd, rfl⟩⟩; refine ⟨_, rfl, ?_⟩) | ((with_reducible refine gate_callee (f := 10) rfl ?_); refine goesL_ (some 34) rfl rfl Try.func10 (by kernel_rfl) rfl #[.int .i64 t275, .int .i64 a5] rfl (by (try simp only [List.map_toArray, List.map_cons, List.map_nil]); first | done | rfl | (simp only [List.length_drop, List.length_take]; rfl)) ?_; (with_reducible refine (safe_Plus.calls t275 a5 t277 t278 _ A9.out).mono ?_); rintro e w' ⟨rfl, ⟨nd, rfl⟩⟩; refine ⟨_, rfl, ?_⟩) | ((with_reducible refine gate_callee (f := 10) rfl ?_); refine goesL_ (some 40) rfl rfl Try.func10 (by kernel_rfl) rfl #[.int .i64 a4, .int .i64 a5] rfl (by (try simp only [List.map_toArray, List.map_cons, List.map_nil]); first | done | rfl | (simp only [List.length_drop, List.length_take]; rfl)) ?_; (with_reducible refine (safe_Plus.calls a4 a5 t279 t280 _ A10.out).mono ?_); rintro e w' ⟨rfl, ⟨nd, rfl⟩⟩; refine ⟨_, rfl, ?_⟩) | ((with_reducible refine gate_callee (f := 10) rfl ?_); refine goesL_ (some 46) rfl rfl Try.func10 (by kernel_rfl) rfl #[.int .i64 a3, .int .i64 t279] rfl (by (try simp only [List.map_toArray, List.map_cons, List.map_nil]); first | done | rfl | (simp only [List.length_drop, List.length_take]; rfl)) ?_; (with_reducible refine (safe_Plus.calls a3 t279 t281 t282 _ A11.out).mono ?_); rintro e w' ⟨rfl, ⟨nd, rfl⟩⟩; refine ⟨_, rfl, ?_⟩))
  (try simp only [Act.put, List.setIfInBounds_toArray, List.set_cons_zero, List.set_cons_succ])
  go_cut [21] (fun v21 wc => ∃ (kq : Nat) (x21_11 : Bool), v21 = .bool x21_11 ∧ Aside0 (sawtoothlaw01_SafeParts.j0 kq a1 a2 t274 (wrap64 (a0)) x21_11 = some r) ∧ Aside0 (kq ≤ k) ∧ Aside0 (Below w.heap.size w wc))
  case first =>
    have H := HC12.out
    clear HC12
    by_cases c14 : t276 = 0
    · rw [if_pos c14] at H
      have c14b0 : (t276 == 0) = true := beq_iff_eq.mpr c14
      have c14b1 : (t276 != 0) = false := bne_eq_false_iff_eq.mpr c14
      clear c14
      (first | rw [c14b0] | (simp only [i64_w, i32_w]; rw [c14b0]) | skip)
      by_cases c15 : t278 = 0
      · rw [if_pos c15] at H
        have c15b0 : (t278 == 0) = true := beq_iff_eq.mpr c15
        have c15b1 : (t278 != 0) = false := bne_eq_false_iff_eq.mpr c15
        clear c15
        by_cases c16 : t280 = 0
        · rw [if_pos c16] at H
          have c16b0 : (t280 == 0) = true := beq_iff_eq.mpr c16
          have c16b1 : (t280 != 0) = false := bne_eq_false_iff_eq.mpr c16
          clear c16
          by_cases c17 : t282 = 0
          · rw [if_pos c17] at H
            have c17b0 : (t282 == 0) = true := beq_iff_eq.mpr c17
            have c17b1 : (t282 != 0) = false := bne_eq_false_iff_eq.mpr c17
            clear c17
            have H' := Aside0.mk H
            clear H
            go_wp2
            go_meet
            case rel => exact ⟨_, ((t277 == t281)), (by first | rfl | (simp; done) | (simp [*]; done)), H', ⟨by first | omega | exact Nat.le_refl _⟩, ⟨by repeat (first | (with_reducible first | exact HB.out | apply below_alloc | apply pw_below_drewN | apply below_drew1) | exact HB.out)⟩⟩
          · rw [if_neg c17] at H
            have c17b0 : (t282 == 0) = false := beq_eq_false_iff_ne.mpr c17
            have c17b1 : (t282 != 0) = true := bne_iff_ne.mpr c17
            have H' := Aside0.mk H
            clear H
            go_wp2
            go_meet
            case rel => exact ⟨_, (true), (by first | rfl | (simp; done) | (simp [*]; done)), H', ⟨by first | omega | exact Nat.le_refl _⟩, ⟨by repeat (first | (with_reducible first | exact HB.out | apply below_alloc | apply pw_below_drewN | apply below_drew1) | exact HB.out)⟩⟩
        · rw [if_neg c16] at H
          have c16b0 : (t280 == 0) = false := beq_eq_false_iff_ne.mpr c16
          have c16b1 : (t280 != 0) = true := bne_iff_ne.mpr c16
          have H' := Aside0.mk H
          clear H
          go_wp2
          go_meet
          case rel => exact ⟨_, (true), (by first | rfl | (simp; done) | (simp [*]; done)), H', ⟨by first | omega | exact Nat.le_refl _⟩, ⟨by repeat (first | (with_reducible first | exact HB.out | apply below_alloc | apply pw_below_drewN | apply below_drew1) | exact HB.out)⟩⟩
      · rw [if_neg c15] at H
        have c15b0 : (t278 == 0) = false := beq_eq_false_iff_ne.mpr c15
        have c15b1 : (t278 != 0) = true := bne_iff_ne.mpr c15
        have H' := Aside0.mk H
        clear H
        go_wp2
        go_meet
        case rel => exact ⟨_, (true), (by first | rfl | (simp; done) | (simp [*]; done)), H', ⟨by first | omega | exact Nat.le_refl _⟩, ⟨by repeat (first | (with_reducible first | exact HB.out | apply below_alloc | apply pw_below_drewN | apply below_drew1) | exact HB.out)⟩⟩
    · rw [if_neg c14] at H
      have c14b0 : (t276 == 0) = false := beq_eq_false_iff_ne.mpr c14
      have c14b1 : (t276 != 0) = true := bne_iff_ne.mpr c14
      (first | rw [c14b0] | (simp only [i64_w, i32_w]; rw [c14b0]) | skip)
      have H' := Aside0.mk H
      clear H
      go_wp2
      go_meet
      case rel => exact ⟨_, (true), (by first | rfl | (simp; done) | (simp [*]; done)), H', ⟨by first | omega | exact Nat.le_refl _⟩, ⟨by repeat (first | (with_reducible first | exact HB.out | apply below_alloc | apply pw_below_drewN | apply below_drew1) | exact HB.out)⟩⟩
  case rest =>
    clear HC12
    try clear c1
    try clear p2
    try clear p6
    try clear c8
    try clear c9
    try clear c10
    try clear c14
    try clear c14b0
    try clear c14b1
    try clear c15
    try clear c15b0
    try clear c15b1
    try clear c16
    try clear c16b0
    try clear c16b1
    try clear c17
    try clear c17b0
    try clear c17b1
    obtain ⟨kq, x21_11, rfl, HA, HJ11, HB⟩ := hcut
    cases kq with
    | zero => exact absurd HA.out (by simp [sawtoothlaw01_SafeParts.j0])
    | succ kj11 =>
      have H := HA.out
      clear HA
      simp only [sawtoothlaw01_SafeParts.j0] at H
      by_cases c18 : t274 = true
      · subst c18
        have H1 : (if x21_11 = true then ((safe_Add.f (wrap64 (a1)) (wrap64 (a2))).bind fun t283 => ((safe_Mul.f (wrap64 (a0)) t283).bind fun t284 => ((safe_Mul.f (wrap64 (a0)) (wrap64 (a1))).bind fun t285 => ((safe_Mul.f (wrap64 (a0)) (wrap64 (a2))).bind fun t286 => ((safe_Add.f t285 t286).bind fun t287 => (some (t284 == t287))))))) else (some false)) = some r := by rw [if_pos rfl] at H; exact H
        clear H
        have H := H1
        clear H1
        by_cases c19 : x21_11 = true
        · subst c19
          have H1 : ((safe_Add.f (wrap64 (a1)) (wrap64 (a2))).bind fun t283 => ((safe_Mul.f (wrap64 (a0)) t283).bind fun t284 => ((safe_Mul.f (wrap64 (a0)) (wrap64 (a1))).bind fun t285 => ((safe_Mul.f (wrap64 (a0)) (wrap64 (a2))).bind fun t286 => ((safe_Add.f t285 t286).bind fun t287 => (some (t284 == t287))))))) = some r := by rw [if_pos rfl] at H; exact H
          clear H
          have H := H1
          clear H1
          replace H := Option.bind_eq_some_iff.mp H
          obtain ⟨t283, A200, H⟩ := H
          replace H : ((safe_Mul.f (wrap64 (a0)) t283).bind fun t284 => ((safe_Mul.f (wrap64 (a0)) (wrap64 (a1))).bind fun t285 => ((safe_Mul.f (wrap64 (a0)) (wrap64 (a2))).bind fun t286 => ((safe_Add.f t285 t286).bind fun t287 => (some (t284 == t287)))))) = some r := H
          have A20 := Aside0.mk A200
          clear A200
          replace H := Option.bind_eq_some_iff.mp H
          obtain ⟨t284, A210, H⟩ := H
          replace H : ((safe_Mul.f (wrap64 (a0)) (wrap64 (a1))).bind fun t285 => ((safe_Mul.f (wrap64 (a0)) (wrap64 (a2))).bind fun t286 => ((safe_Add.f t285 t286).bind fun t287 => (some (t284 == t287))))) = some r := H
          have A21 := Aside0.mk A210
          clear A210
          replace H := Option.bind_eq_some_iff.mp H
          obtain ⟨t285, A220, H⟩ := H
          replace H : ((safe_Mul.f (wrap64 (a0)) (wrap64 (a2))).bind fun t286 => ((safe_Add.f t285 t286).bind fun t287 => (some (t284 == t287)))) = some r := H
          have A22 := Aside0.mk A220
          clear A220
          replace H := Option.bind_eq_some_iff.mp H
          obtain ⟨t286, A230, H⟩ := H
          replace H : ((safe_Add.f t285 t286).bind fun t287 => (some (t284 == t287))) = some r := H
          have A23 := Aside0.mk A230
          clear A230
          replace H := Option.bind_eq_some_iff.mp H
          obtain ⟨t287, A240, H⟩ := H
          replace H : (some (t284 == t287)) = some r := H
          have A24 := Aside0.mk A240
          clear A240
          obtain rfl := Option.some.inj H
          go_wp2_with (first | (go_at_call 14; (with_reducible refine (safe_Add.calls (wrap64 (a1)) (wrap64 (a2)) t283 _ A20.out).mono ?_); rintro e w25 ⟨rfl, hb⟩; have n0_ := Aside0.mk (below_step (by repeat (first | (with_reducible first | exact HB.out | apply below_alloc | apply pw_below_drewN | apply below_drew1) | exact HB.out)) hb); clear HB; have HB := n0_; clear n0_; (try clear hb); (try clear hb2); (try clear hk); (try clear hi)) | (go_at_call 18; (with_reducible refine (safe_Mul.calls (wrap64 (a0)) t283 t284 _ A21.out).mono ?_); rintro e w26 ⟨rfl, hb⟩; have n0_ := Aside0.mk (below_step (by repeat (first | (with_reducible first | exact HB.out | apply below_alloc | apply pw_below_drewN | apply below_drew1) | exact HB.out)) hb); clear HB; have HB := n0_; clear n0_; (try clear hb); (try clear hb2); (try clear hk); (try clear hi)) | (go_at_call 18; (with_reducible refine (safe_Mul.calls (wrap64 (a0)) (wrap64 (a1)) t285 _ A22.out).mono ?_); rintro e w27 ⟨rfl, hb⟩; have n0_ := Aside0.mk (below_step (by repeat (first | (with_reducible first | exact HB.out | apply below_alloc | apply pw_below_drewN | apply below_drew1) | exact HB.out)) hb); clear HB; have HB := n0_; clear n0_; (try clear hb); (try clear hb2); (try clear hk); (try clear hi)) | (go_at_call 18; (with_reducible refine (safe_Mul.calls (wrap64 (a0)) (wrap64 (a2)) t286 _ A23.out).mono ?_); rintro e w28 ⟨rfl, hb⟩; have n0_ := Aside0.mk (below_step (by repeat (first | (with_reducible first | exact HB.out | apply below_alloc | apply pw_below_drewN | apply below_drew1) | exact HB.out)) hb); clear HB; have HB := n0_; clear n0_; (try clear hb); (try clear hb2); (try clear hk); (try clear hi)) | (go_at_call 14; (with_reducible refine (safe_Add.calls t285 t286 t287 _ A24.out).mono ?_); rintro e w29 ⟨rfl, hb⟩; have n0_ := Aside0.mk (below_step (by repeat (first | (with_reducible first | exact HB.out | apply below_alloc | apply pw_below_drewN | apply below_drew1) | exact HB.out)) hb); clear HB; have HB := n0_; clear n0_; (try clear hb); (try clear hb2); (try clear hk); (try clear hi)))
          go_ret
          exact ⟨by first | rfl | (simp [errW_none, errW_some] <;> rfl) | (simp [*, errW_none, errW_some] <;> rfl), by repeat (first | (with_reducible first | exact HB.out | apply below_alloc | apply pw_below_drewN | apply below_drew1) | exact HB.out)⟩
        · replace c19 := Bool.eq_false_iff.mpr c19
          subst c19
          have H1 : (some false) = some r := by rw [if_neg (show ¬ (false = true) by decide)] at H; exact H
          clear H
          have H := H1
          clear H1
          exact absurd ((Option.some.inj H).trans hr_) (by simp)
      · replace c18 := Bool.eq_false_iff.mpr c18
        subst c18
        have H1 : (some false) = some r := by rw [if_neg (show ¬ (false = true) by decide)] at H; exact H
        clear H
        have H := H1
        clear H1
        exact absurd ((Option.some.inj H).trans hr_) (by simp)

/-- THE ONE PURE STATEMENT of sawtoothlaw01_SafeParts: yours. -/
def sawtoothlaw01_SafeParts.Pure : Prop := ∀ (a0 : Int) (a1 : Int) (a2 : Int) (a3 : Int) (a4 : Int) (a5 : Int), (Lit.int .i32 a0).wf = true → (Lit.int .i32 a1).wf = true → (Lit.int .i32 a2).wf = true → (Lit.int .i64 a3).wf = true → (Lit.int .i64 a4).wf = true → (Lit.int .i64 a5).wf = true → ∃ k, sawtoothlaw01_SafeParts.f k a0 a1 a2 a3 a4 a5 = some true
theorem sawtoothlaw01_SafeParts.walk (P : sawtoothlaw01_SafeParts.Pure) (a0 : Int) (a1 : Int) (a2 : Int) (a3 : Int) (a4 : Int) (a5 : Int) (w : World) (w0 : (Lit.int .i32 a0).wf = true) (w1 : (Lit.int .i32 a1).wf = true) (w2 : (Lit.int .i32 a2).wf = true) (w3 : (Lit.int .i64 a3).wf = true) (w4 : (Lit.int .i64 a4).wf = true) (w5 : (Lit.int .i64 a5).wf = true) :
    Calls Try.prog 8 #[.int .i32 a0, .int .i32 a1, .int .i32 a2, .int .i64 a3, .int .i64 a4, .int .i64 a5] w fun e w' => e = .returned (.bool true) ∧ Below w.heap.size w w' := by
  obtain ⟨k, h⟩ := P a0 a1 a2 a3 a4 a5 w0 w1 w2 w3 w4 w5
  refine (sawtoothlaw01_SafeParts.calls k a0 a1 a2 a3 a4 a5 true w h rfl).mono ?_
  rintro e w' ⟨rfl, hd⟩
  exact ⟨rfl, hd⟩

end Go.Proofs.Ytdgnhmghniloiaa.Hp
