/- Functions of the program as Lean functions, each with its contract: the call comes to that answer. Told by wip/tools/handprint.py of this session. -/
import Derived.Test.YtdgnhmghniloiaaHpx0
import Derived.Test.YtdgnhmghniloiaaHpx1
import Derived.Test.YtdgnhmghniloiaaHpx2
import Derived.Test.YtdgnhmghniloiaaHpx3
import Derived.Test.YtdgnhmghniloiaaHpx4
import Derived.Test.YtdgnhmghniloiaaHpx5
import Derived.Test.YtdgnhmghniloiaaHpx6
import Derived.Test.YtdgnhmghniloiaaHpx7
import Derived.Test.YtdgnhmghniloiaaHpx9
import Derived.Test.YtdgnhmghniloiaaHpx10
import Derived.Test.YtdgnhmghniloiaaHpx11
namespace Go.Proofs.Ytdgnhmghniloiaa.Hp
open Go.RowKit Go.Proofs.YtdgnhmghniloiaaW.PrintWords Go.Proofs.YtdgnhmghniloiaaW.PrintLast Go.Proofs.YtdgnhmghniloiaaW.PrintMore
attribute [local go_sem] max2_int min2_int max_two min_two max_three min_three max_four min_four   -- for this text's walks alone
set_option linter.unusedVariables false
set_option linter.unusedSimpArgs false

/-! ### sawtoothlaw01_SafeTells: function 3 -/
def sawtoothlaw01_SafeTells.j0 : Nat → Int → Int → Int → Bool → Bool → Option (Bool)
  | 0, _, _, _, _, _ => none
  | k + 1, x0, x1, x2, x7, x16 => if x7 = true then (if x16 = true then ((safe_Abs.f x0).bind fun t124 => ((sawtoothref01_Abs.f k x0).bind fun t125 => (if t124 = t125 then ((safe_Clamp.f x0 x1 x2).bind fun t126 => ((sawtoothref01_Clamp.f x0 x1 x2).bind fun t127 => (some (t126 == t127)))) else (some false)))) else (some false)) else (some false)
def sawtoothlaw01_SafeTells.f (k : Nat) (a0 : Int) (a1 : Int) (a2 : Int) : Option (Bool) := (sawtoothlaw01_awake.f).bind fun t109 => ((safe_Plus.f a0 a1).bind fun bt110 => ((sawtoothref01_Plus.f a0 a1).bind fun bt112 => ((safe_Times.f a0 a1).bind fun bt114 => ((sawtoothref01_Times.f a0 a1).bind fun bt116 => (if bt110.1 = bt112.1 then (if bt110.2 = bt112.2 then (if bt114.1 = bt116.1 then (if bt114.2 = bt116.2 then ((safe_Add.f a0 a1).bind fun t118 => ((sawtoothref01_Add.f k a0 a1).bind fun t119 => (if t118 = t119 then ((safe_Sub.f a0 a1).bind fun t120 => ((sawtoothref01_Sub.f k a0 a1).bind fun t121 => (if t120 = t121 then ((safe_Mul.f a0 a1).bind fun t122 => ((sawtoothref01_Mul.f k a0 a1).bind fun t123 => (sawtoothlaw01_SafeTells.j0 k a0 a1 a2 t109 (t122 == t123)))) else (sawtoothlaw01_SafeTells.j0 k a0 a1 a2 t109 false)))) else (sawtoothlaw01_SafeTells.j0 k a0 a1 a2 t109 false)))) else (sawtoothlaw01_SafeTells.j0 k a0 a1 a2 t109 false)) else (sawtoothlaw01_SafeTells.j0 k a0 a1 a2 t109 false)) else (sawtoothlaw01_SafeTells.j0 k a0 a1 a2 t109 false)) else (sawtoothlaw01_SafeTells.j0 k a0 a1 a2 t109 false))))))
theorem sawtoothlaw01_SafeTells.mono_l : ∀ k, (∀ y0 y1 y2 y3 y4, LeO (sawtoothlaw01_SafeTells.j0 k y0 y1 y2 y3 y4) (sawtoothlaw01_SafeTells.j0 (k + 1) y0 y1 y2 y3 y4))
  | 0 => fun _ _ _ _ _ r h => by simp [sawtoothlaw01_SafeTells.j0] at h
  | k + 1 => by
    have ih0 := sawtoothlaw01_SafeTells.mono_l k
    · intro y0 y1 y2 y3 y4
      unfold sawtoothlaw01_SafeTells.j0
      repeat' first
      | (with_reducible exact ih0 _ _ _ _ _)
      | (with_reducible exact sawtoothref01_Abs.mono _ _)
      | (with_reducible exact sawtoothref01_Add.mono _ _ _)
      | (with_reducible exact sawtoothref01_Mul.mono _ _ _)
      | (with_reducible exact sawtoothref01_Sub.mono _ _ _)
      | (with_reducible exact LeO.refl _)
      | (with_reducible exact LeO.none _)
      | (with_reducible refine LeO.ite ?_ ?_)
      | (with_reducible refine LeO.bind ?_ (fun _ => ?_))
      | exact ih0 _ _ _ _ _
      | exact sawtoothref01_Abs.mono _ _
      | exact sawtoothref01_Add.mono _ _ _
      | exact sawtoothref01_Mul.mono _ _ _
      | exact sawtoothref01_Sub.mono _ _ _
      | exact LeO.none _
      | refine LeO.ite ?_ ?_
      | refine LeO.bind ?_ (fun _ => ?_)
theorem sawtoothlaw01_SafeTells.mono : ∀ a0 a1 a2 k, LeO (sawtoothlaw01_SafeTells.f k a0 a1 a2) (sawtoothlaw01_SafeTells.f (k + 1) a0 a1 a2) := by
  intro a0 a1 a2 k
  have ih0 := sawtoothlaw01_SafeTells.mono_l k
  unfold sawtoothlaw01_SafeTells.f
  repeat' first
      | (with_reducible exact ih0 _ _ _ _ _)
      | (with_reducible exact sawtoothref01_Abs.mono _ _)
      | (with_reducible exact sawtoothref01_Add.mono _ _ _)
      | (with_reducible exact sawtoothref01_Mul.mono _ _ _)
      | (with_reducible exact sawtoothref01_Sub.mono _ _ _)
      | (with_reducible exact LeO.refl _)
      | (with_reducible exact LeO.none _)
      | (with_reducible refine LeO.ite ?_ ?_)
      | (with_reducible refine LeO.bind ?_ (fun _ => ?_))
      | exact ih0 _ _ _ _ _
      | exact sawtoothref01_Abs.mono _ _
      | exact sawtoothref01_Add.mono _ _ _
      | exact sawtoothref01_Mul.mono _ _ _
      | exact sawtoothref01_Sub.mono _ _ _
      | exact LeO.none _
      | refine LeO.ite ?_ ?_
      | refine LeO.bind ?_ (fun _ => ?_)
set_option maxHeartbeats 8000000 in
set_option maxRecDepth 100000 in
theorem sawtoothlaw01_SafeTells.calls (k : Nat) (a0 : Int) (a1 : Int) (a2 : Int) (r : Bool) (w : World) (h : sawtoothlaw01_SafeTells.f k a0 a1 a2 = some r) (hr_ : r = true) :
    Calls Try.prog 3 #[.int .i64 a0, .int .i64 a1, .int .i64 a2] w fun e w' => e = .returned (.bool r) ∧ Below w.heap.size w w' := by
  have HB := Aside0.mk (Below.refl w.heap.size w)
  have H : ((sawtoothlaw01_awake.f).bind fun t109 => ((safe_Plus.f a0 a1).bind fun bt110 => ((sawtoothref01_Plus.f a0 a1).bind fun bt112 => ((safe_Times.f a0 a1).bind fun bt114 => ((sawtoothref01_Times.f a0 a1).bind fun bt116 => (if bt110.1 = bt112.1 then (if bt110.2 = bt112.2 then (if bt114.1 = bt116.1 then (if bt114.2 = bt116.2 then ((safe_Add.f a0 a1).bind fun t118 => ((sawtoothref01_Add.f k a0 a1).bind fun t119 => (if t118 = t119 then ((safe_Sub.f a0 a1).bind fun t120 => ((sawtoothref01_Sub.f k a0 a1).bind fun t121 => (if t120 = t121 then ((safe_Mul.f a0 a1).bind fun t122 => ((sawtoothref01_Mul.f k a0 a1).bind fun t123 => (sawtoothlaw01_SafeTells.j0 k a0 a1 a2 t109 (t122 == t123)))) else (sawtoothlaw01_SafeTells.j0 k a0 a1 a2 t109 false)))) else (sawtoothlaw01_SafeTells.j0 k a0 a1 a2 t109 false)))) else (sawtoothlaw01_SafeTells.j0 k a0 a1 a2 t109 false)) else (sawtoothlaw01_SafeTells.j0 k a0 a1 a2 t109 false)) else (sawtoothlaw01_SafeTells.j0 k a0 a1 a2 t109 false)) else (sawtoothlaw01_SafeTells.j0 k a0 a1 a2 t109 false))))))) = some r := h
  clear h
  replace H := Option.bind_eq_some_iff.mp H
  obtain ⟨t109, A40, H⟩ := H
  replace H : ((safe_Plus.f a0 a1).bind fun bt110 => ((sawtoothref01_Plus.f a0 a1).bind fun bt112 => ((safe_Times.f a0 a1).bind fun bt114 => ((sawtoothref01_Times.f a0 a1).bind fun bt116 => (if bt110.1 = bt112.1 then (if bt110.2 = bt112.2 then (if bt114.1 = bt116.1 then (if bt114.2 = bt116.2 then ((safe_Add.f a0 a1).bind fun t118 => ((sawtoothref01_Add.f k a0 a1).bind fun t119 => (if t118 = t119 then ((safe_Sub.f a0 a1).bind fun t120 => ((sawtoothref01_Sub.f k a0 a1).bind fun t121 => (if t120 = t121 then ((safe_Mul.f a0 a1).bind fun t122 => ((sawtoothref01_Mul.f k a0 a1).bind fun t123 => (sawtoothlaw01_SafeTells.j0 k a0 a1 a2 t109 (t122 == t123)))) else (sawtoothlaw01_SafeTells.j0 k a0 a1 a2 t109 false)))) else (sawtoothlaw01_SafeTells.j0 k a0 a1 a2 t109 false)))) else (sawtoothlaw01_SafeTells.j0 k a0 a1 a2 t109 false)) else (sawtoothlaw01_SafeTells.j0 k a0 a1 a2 t109 false)) else (sawtoothlaw01_SafeTells.j0 k a0 a1 a2 t109 false)) else (sawtoothlaw01_SafeTells.j0 k a0 a1 a2 t109 false)))))) = some r := H
  have A4 := Aside0.mk A40
  clear A40
  replace H := Option.bind_eq_some_iff.mp H
  obtain ⟨⟨t110, t111⟩, A50, H⟩ := H
  replace H : ((sawtoothref01_Plus.f a0 a1).bind fun bt112 => ((safe_Times.f a0 a1).bind fun bt114 => ((sawtoothref01_Times.f a0 a1).bind fun bt116 => (if t110 = bt112.1 then (if t111 = bt112.2 then (if bt114.1 = bt116.1 then (if bt114.2 = bt116.2 then ((safe_Add.f a0 a1).bind fun t118 => ((sawtoothref01_Add.f k a0 a1).bind fun t119 => (if t118 = t119 then ((safe_Sub.f a0 a1).bind fun t120 => ((sawtoothref01_Sub.f k a0 a1).bind fun t121 => (if t120 = t121 then ((safe_Mul.f a0 a1).bind fun t122 => ((sawtoothref01_Mul.f k a0 a1).bind fun t123 => (sawtoothlaw01_SafeTells.j0 k a0 a1 a2 t109 (t122 == t123)))) else (sawtoothlaw01_SafeTells.j0 k a0 a1 a2 t109 false)))) else (sawtoothlaw01_SafeTells.j0 k a0 a1 a2 t109 false)))) else (sawtoothlaw01_SafeTells.j0 k a0 a1 a2 t109 false)) else (sawtoothlaw01_SafeTells.j0 k a0 a1 a2 t109 false)) else (sawtoothlaw01_SafeTells.j0 k a0 a1 a2 t109 false)) else (sawtoothlaw01_SafeTells.j0 k a0 a1 a2 t109 false))))) = some r := H
  have A5 := Aside0.mk A50
  clear A50
  replace H := Option.bind_eq_some_iff.mp H
  obtain ⟨⟨t112, t113⟩, A60, H⟩ := H
  replace H : ((safe_Times.f a0 a1).bind fun bt114 => ((sawtoothref01_Times.f a0 a1).bind fun bt116 => (if t110 = t112 then (if t111 = t113 then (if bt114.1 = bt116.1 then (if bt114.2 = bt116.2 then ((safe_Add.f a0 a1).bind fun t118 => ((sawtoothref01_Add.f k a0 a1).bind fun t119 => (if t118 = t119 then ((safe_Sub.f a0 a1).bind fun t120 => ((sawtoothref01_Sub.f k a0 a1).bind fun t121 => (if t120 = t121 then ((safe_Mul.f a0 a1).bind fun t122 => ((sawtoothref01_Mul.f k a0 a1).bind fun t123 => (sawtoothlaw01_SafeTells.j0 k a0 a1 a2 t109 (t122 == t123)))) else (sawtoothlaw01_SafeTells.j0 k a0 a1 a2 t109 false)))) else (sawtoothlaw01_SafeTells.j0 k a0 a1 a2 t109 false)))) else (sawtoothlaw01_SafeTells.j0 k a0 a1 a2 t109 false)) else (sawtoothlaw01_SafeTells.j0 k a0 a1 a2 t109 false)) else (sawtoothlaw01_SafeTells.j0 k a0 a1 a2 t109 false)) else (sawtoothlaw01_SafeTells.j0 k a0 a1 a2 t109 false)))) = some r := H
  have A6 := Aside0.mk A60
  clear A60
  replace H := Option.bind_eq_some_iff.mp H
  obtain ⟨⟨t114, t115⟩, A70, H⟩ := H
  replace H : ((sawtoothref01_Times.f a0 a1).bind fun bt116 => (if t110 = t112 then (if t111 = t113 then (if t114 = bt116.1 then (if t115 = bt116.2 then ((safe_Add.f a0 a1).bind fun t118 => ((sawtoothref01_Add.f k a0 a1).bind fun t119 => (if t118 = t119 then ((safe_Sub.f a0 a1).bind fun t120 => ((sawtoothref01_Sub.f k a0 a1).bind fun t121 => (if t120 = t121 then ((safe_Mul.f a0 a1).bind fun t122 => ((sawtoothref01_Mul.f k a0 a1).bind fun t123 => (sawtoothlaw01_SafeTells.j0 k a0 a1 a2 t109 (t122 == t123)))) else (sawtoothlaw01_SafeTells.j0 k a0 a1 a2 t109 false)))) else (sawtoothlaw01_SafeTells.j0 k a0 a1 a2 t109 false)))) else (sawtoothlaw01_SafeTells.j0 k a0 a1 a2 t109 false)) else (sawtoothlaw01_SafeTells.j0 k a0 a1 a2 t109 false)) else (sawtoothlaw01_SafeTells.j0 k a0 a1 a2 t109 false)) else (sawtoothlaw01_SafeTells.j0 k a0 a1 a2 t109 false))) = some r := H
  have A7 := Aside0.mk A70
  clear A70
  replace H := Option.bind_eq_some_iff.mp H
  obtain ⟨⟨t116, t117⟩, A80, H⟩ := H
  replace H : (if t110 = t112 then (if t111 = t113 then (if t114 = t116 then (if t115 = t117 then ((safe_Add.f a0 a1).bind fun t118 => ((sawtoothref01_Add.f k a0 a1).bind fun t119 => (if t118 = t119 then ((safe_Sub.f a0 a1).bind fun t120 => ((sawtoothref01_Sub.f k a0 a1).bind fun t121 => (if t120 = t121 then ((safe_Mul.f a0 a1).bind fun t122 => ((sawtoothref01_Mul.f k a0 a1).bind fun t123 => (sawtoothlaw01_SafeTells.j0 k a0 a1 a2 t109 (t122 == t123)))) else (sawtoothlaw01_SafeTells.j0 k a0 a1 a2 t109 false)))) else (sawtoothlaw01_SafeTells.j0 k a0 a1 a2 t109 false)))) else (sawtoothlaw01_SafeTells.j0 k a0 a1 a2 t109 false)) else (sawtoothlaw01_SafeTells.j0 k a0 a1 a2 t109 false)) else (sawtoothlaw01_SafeTells.j0 k a0 a1 a2 t109 false)) else (sawtoothlaw01_SafeTells.j0 k a0 a1 a2 t109 false)) = some r := H
  have A8 := Aside0.mk A80
  clear A80
  have HC9 := Aside0.mk H
  clear H
  go_enter Try.func3, Try.ntmps3
  go_upto_region 6 with (first | ((with_reducible refine gate_callee (f := 9) rfl ?_); refine goesL_ (some 17) rfl rfl Try.func9 (by kernel_rfl) rfl #[] rfl (by (try simp only [List.map_toArray, List.map_cons, List.map_nil]); first | done | rfl | (simp only [List.length_drop, List.length_take]; rfl)) ?_; (with_reducible refine (sawtoothlaw01_awake.calls  t109 _ A4.out).mono ?_); rintro e w10 ⟨rfl, hb⟩; refine ⟨_, rfl, ?_⟩; have n0_ := Aside0.mk (below_step (by repeat (first | (with_reducible first | exact HB.out | apply below_alloc | apply pw_below_drewN | apply below_drew1) | exact HB.out)) hb); clear HB; have HB := n0_; clear n0_; (try clear hb); (try clear hb2); (try clear hk); (try clear hi)) | ((with_reducible refine gate_callee (f := 10) rfl ?_); refine goesL_ (some 21) rfl rfl Try.func10 (by kernel_rfl) rfl #[.int .i64 a0, .int .i64 a1] rfl (by (try simp only [List.map_toArray, List.map_cons, List.map_nil]); first | done | rfl | (simp only [List.length_drop, List.length_take]; rfl)) ?_; (with_reducible refine (safe_Plus.calls a0 a1 t110 t111 _ A5.out).mono ?_); rintro e w' ⟨rfl, ⟨nd, rfl⟩⟩; refine ⟨_, rfl, ?_⟩) | ((with_reducible refine gate_callee (f := 11) rfl ?_); refine goesL_ (some 27) rfl rfl Try.func11 (by kernel_rfl) rfl #[.int .i64 a0, .int .i64 a1] rfl (by (try simp only [List.map_toArray, List.map_cons, List.map_nil]); first | done | rfl | (simp only [List.length_drop, List.length_take]; rfl)) ?_; (with_reducible refine (sawtoothref01_Plus.calls a0 a1 t112 t113 _ A6.out).mono ?_); rintro e w' ⟨rfl, ⟨nd, rfl⟩⟩; refine ⟨_, rfl, ?_⟩) | ((with_reducible refine gate_callee (f := 12) rfl ?_); refine goesL_ (some 33) rfl rfl Try.func12 (by kernel_rfl) rfl #[.int .i64 a0, .int .i64 a1] rfl (by (try simp only [List.map_toArray, List.map_cons, List.map_nil]); first | done | rfl | (simp only [List.length_drop, List.length_take]; rfl)) ?_; (with_reducible refine (safe_Times.calls a0 a1 t114 t115 _ A7.out).mono ?_); rintro e w' ⟨rfl, ⟨nd, rfl⟩⟩; refine ⟨_, rfl, ?_⟩) | ((with_reducible refine gate_callee (f := 13) rfl ?_); refine goesL_ (some 39) rfl rfl Try.func13 (by kernel_rfl) rfl #[.int .i64 a0, .int .i64 a1] rfl (by (try simp only [List.map_toArray, List.map_cons, List.map_nil]); first | done | rfl | (simp only [List.length_drop, List.length_take]; rfl)) ?_; (with_reducible refine (sawtoothref01_Times.calls a0 a1 t116 t117 _ A8.out).mono ?_); rintro e w' ⟨rfl, ⟨nd, rfl⟩⟩; refine ⟨_, rfl, ?_⟩))
  (try simp only [Act.put, List.setIfInBounds_toArray, List.set_cons_zero, List.set_cons_succ])
  go_cut [16] (fun v16 wc => ∃ (kq : Nat) (x16_8 : Bool), v16 = .bool x16_8 ∧ Aside0 (sawtoothlaw01_SafeTells.j0 kq a0 a1 a2 t109 x16_8 = some r) ∧ Aside0 (kq ≤ k) ∧ Aside0 (Below w.heap.size w wc))
  case first =>
    have H := HC9.out
    clear HC9
    by_cases c11 : t110 = t112
    · rw [if_pos c11] at H
      have c11b0 : (t110 == t112) = true := beq_iff_eq.mpr c11
      have c11b1 : (t110 != t112) = false := bne_eq_false_iff_eq.mpr c11
      clear c11
      (first | rw [c11b0] | (simp only [i64_w, i32_w]; rw [c11b0]) | skip)
      by_cases c12 : t111 = t113
      · rw [if_pos c12] at H
        have c12b0 : (t111 == t113) = true := beq_iff_eq.mpr c12
        have c12b1 : (t111 != t113) = false := bne_eq_false_iff_eq.mpr c12
        clear c12
        by_cases c13 : t114 = t116
        · rw [if_pos c13] at H
          have c13b0 : (t114 == t116) = true := beq_iff_eq.mpr c13
          have c13b1 : (t114 != t116) = false := bne_eq_false_iff_eq.mpr c13
          clear c13
          by_cases c14 : t115 = t117
          · rw [if_pos c14] at H
            have c14b0 : (t115 == t117) = true := beq_iff_eq.mpr c14
            have c14b1 : (t115 != t117) = false := bne_eq_false_iff_eq.mpr c14
            clear c14
            replace H := Option.bind_eq_some_iff.mp H
            obtain ⟨t118, A150, H⟩ := H
            replace H : ((sawtoothref01_Add.f k a0 a1).bind fun t119 => (if t118 = t119 then ((safe_Sub.f a0 a1).bind fun t120 => ((sawtoothref01_Sub.f k a0 a1).bind fun t121 => (if t120 = t121 then ((safe_Mul.f a0 a1).bind fun t122 => ((sawtoothref01_Mul.f k a0 a1).bind fun t123 => (sawtoothlaw01_SafeTells.j0 k a0 a1 a2 t109 (t122 == t123)))) else (sawtoothlaw01_SafeTells.j0 k a0 a1 a2 t109 false)))) else (sawtoothlaw01_SafeTells.j0 k a0 a1 a2 t109 false))) = some r := H
            have A15 := Aside0.mk A150
            clear A150
            replace H := Option.bind_eq_some_iff.mp H
            obtain ⟨t119, A160, H⟩ := H
            replace H : (if t118 = t119 then ((safe_Sub.f a0 a1).bind fun t120 => ((sawtoothref01_Sub.f k a0 a1).bind fun t121 => (if t120 = t121 then ((safe_Mul.f a0 a1).bind fun t122 => ((sawtoothref01_Mul.f k a0 a1).bind fun t123 => (sawtoothlaw01_SafeTells.j0 k a0 a1 a2 t109 (t122 == t123)))) else (sawtoothlaw01_SafeTells.j0 k a0 a1 a2 t109 false)))) else (sawtoothlaw01_SafeTells.j0 k a0 a1 a2 t109 false)) = some r := H
            have A16 := Aside0.mk A160
            clear A160
            by_cases c17 : t118 = t119
            · rw [if_pos c17] at H
              have c17b0 : (t118 == t119) = true := beq_iff_eq.mpr c17
              have c17b1 : (t118 != t119) = false := bne_eq_false_iff_eq.mpr c17
              clear c17
              replace H := Option.bind_eq_some_iff.mp H
              obtain ⟨t120, A180, H⟩ := H
              replace H : ((sawtoothref01_Sub.f k a0 a1).bind fun t121 => (if t120 = t121 then ((safe_Mul.f a0 a1).bind fun t122 => ((sawtoothref01_Mul.f k a0 a1).bind fun t123 => (sawtoothlaw01_SafeTells.j0 k a0 a1 a2 t109 (t122 == t123)))) else (sawtoothlaw01_SafeTells.j0 k a0 a1 a2 t109 false))) = some r := H
              have A18 := Aside0.mk A180
              clear A180
              replace H := Option.bind_eq_some_iff.mp H
              obtain ⟨t121, A190, H⟩ := H
              replace H : (if t120 = t121 then ((safe_Mul.f a0 a1).bind fun t122 => ((sawtoothref01_Mul.f k a0 a1).bind fun t123 => (sawtoothlaw01_SafeTells.j0 k a0 a1 a2 t109 (t122 == t123)))) else (sawtoothlaw01_SafeTells.j0 k a0 a1 a2 t109 false)) = some r := H
              have A19 := Aside0.mk A190
              clear A190
              by_cases c20 : t120 = t121
              · rw [if_pos c20] at H
                have c20b0 : (t120 == t121) = true := beq_iff_eq.mpr c20
                have c20b1 : (t120 != t121) = false := bne_eq_false_iff_eq.mpr c20
                clear c20
                replace H := Option.bind_eq_some_iff.mp H
                obtain ⟨t122, A210, H⟩ := H
                replace H : ((sawtoothref01_Mul.f k a0 a1).bind fun t123 => (sawtoothlaw01_SafeTells.j0 k a0 a1 a2 t109 (t122 == t123))) = some r := H
                have A21 := Aside0.mk A210
                clear A210
                replace H := Option.bind_eq_some_iff.mp H
                obtain ⟨t123, A220, H⟩ := H
                replace H : (sawtoothlaw01_SafeTells.j0 k a0 a1 a2 t109 (t122 == t123)) = some r := H
                have A22 := Aside0.mk A220
                clear A220
                have H' := Aside0.mk H
                clear H
                go_wp2_with (first | (go_at_call 14; (with_reducible refine (safe_Add.calls a0 a1 t118 _ A15.out).mono ?_); rintro e w23 ⟨rfl, hb⟩; have n0_ := Aside0.mk (below_step (by repeat (first | (with_reducible first | exact HB.out | apply below_alloc | apply pw_below_drewN | apply below_drew1) | exact HB.out)) hb); clear HB; have HB := n0_; clear n0_; (try clear hb); (try clear hb2); (try clear hk); (try clear hi)) | (go_at_call 15; (with_reducible refine (sawtoothref01_Add.calls k a0 a1 t119 _ A16.out).mono ?_); rintro e w' ⟨rfl, ⟨nd, rfl⟩⟩) | (go_at_call 16; (with_reducible refine (safe_Sub.calls a0 a1 t120 _ A18.out).mono ?_); rintro e w24 ⟨rfl, hb⟩; have n0_ := Aside0.mk (below_step (by repeat (first | (with_reducible first | exact HB.out | apply below_alloc | apply pw_below_drewN | apply below_drew1) | exact HB.out)) hb); clear HB; have HB := n0_; clear n0_; (try clear hb); (try clear hb2); (try clear hk); (try clear hi)) | (go_at_call 17; (with_reducible refine (sawtoothref01_Sub.calls k a0 a1 t121 _ A19.out).mono ?_); rintro e w' ⟨rfl, ⟨nd, rfl⟩⟩) | (go_at_call 18; (with_reducible refine (safe_Mul.calls a0 a1 t122 _ A21.out).mono ?_); rintro e w25 ⟨rfl, hb⟩; have n0_ := Aside0.mk (below_step (by repeat (first | (with_reducible first | exact HB.out | apply below_alloc | apply pw_below_drewN | apply below_drew1) | exact HB.out)) hb); clear HB; have HB := n0_; clear n0_; (try clear hb); (try clear hb2); (try clear hk); (try clear hi)) | (go_at_call 19; (with_reducible refine (sawtoothref01_Mul.calls k a0 a1 t123 _ A22.out).mono ?_); rintro e w' ⟨rfl, ⟨nd, rfl⟩⟩))
                go_meet
                case rel => exact ⟨_, ((t122 == t123)), (by first | rfl | (simp; done) | (simp [*]; done)), H', ⟨by first | omega | exact Nat.le_refl _⟩, ⟨by repeat (first | (with_reducible first | exact HB.out | apply below_alloc | apply pw_below_drewN | apply below_drew1) | exact HB.out)⟩⟩
              · rw [if_neg c20] at H
                have c20b0 : (t120 == t121) = false := beq_eq_false_iff_ne.mpr c20
                have c20b1 : (t120 != t121) = true := bne_iff_ne.mpr c20
                have H' := Aside0.mk H
                clear H
                go_wp2_with (first | (go_at_call 14; (with_reducible refine (safe_Add.calls a0 a1 t118 _ A15.out).mono ?_); rintro e w26 ⟨rfl, hb⟩; have n0_ := Aside0.mk (below_step (by repeat (first | (with_reducible first | exact HB.out | apply below_alloc | apply pw_below_drewN | apply below_drew1) | exact HB.out)) hb); clear HB; have HB := n0_; clear n0_; (try clear hb); (try clear hb2); (try clear hk); (try clear hi)) | (go_at_call 15; (with_reducible refine (sawtoothref01_Add.calls k a0 a1 t119 _ A16.out).mono ?_); rintro e w' ⟨rfl, ⟨nd, rfl⟩⟩) | (go_at_call 16; (with_reducible refine (safe_Sub.calls a0 a1 t120 _ A18.out).mono ?_); rintro e w27 ⟨rfl, hb⟩; have n0_ := Aside0.mk (below_step (by repeat (first | (with_reducible first | exact HB.out | apply below_alloc | apply pw_below_drewN | apply below_drew1) | exact HB.out)) hb); clear HB; have HB := n0_; clear n0_; (try clear hb); (try clear hb2); (try clear hk); (try clear hi)) | (go_at_call 17; (with_reducible refine (sawtoothref01_Sub.calls k a0 a1 t121 _ A19.out).mono ?_); rintro e w' ⟨rfl, ⟨nd, rfl⟩⟩))
                go_meet
                case rel => exact ⟨_, (false), (by first | rfl | (simp; done) | (simp [*]; done)), H', ⟨by first | omega | exact Nat.le_refl _⟩, ⟨by repeat (first | (with_reducible first | exact HB.out | apply below_alloc | apply pw_below_drewN | apply below_drew1) | exact HB.out)⟩⟩
            · rw [if_neg c17] at H
              have c17b0 : (t118 == t119) = false := beq_eq_false_iff_ne.mpr c17
              have c17b1 : (t118 != t119) = true := bne_iff_ne.mpr c17
              have H' := Aside0.mk H
              clear H
              go_wp2_with (first | (go_at_call 14; (with_reducible refine (safe_Add.calls a0 a1 t118 _ A15.out).mono ?_); rintro e w28 ⟨rfl, hb⟩; have n0_ := Aside0.mk (below_step (by repeat (first | (with_reducible first | exact HB.out | apply below_alloc | apply pw_below_drewN | apply below_drew1) | exact HB.out)) hb); clear HB; have HB := n0_; clear n0_; (try clear hb); (try clear hb2); (try clear hk); (try clear hi)) | (go_at_call 15; (with_reducible refine (sawtoothref01_Add.calls k a0 a1 t119 _ A16.out).mono ?_); rintro e w' ⟨rfl, ⟨nd, rfl⟩⟩))
              go_meet
              case rel => exact ⟨_, (false), (by first | rfl | (simp; done) | (simp [*]; done)), H', ⟨by first | omega | exact Nat.le_refl _⟩, ⟨by repeat (first | (with_reducible first | exact HB.out | apply below_alloc | apply pw_below_drewN | apply below_drew1) | exact HB.out)⟩⟩
          · rw [if_neg c14] at H
            have c14b0 : (t115 == t117) = false := beq_eq_false_iff_ne.mpr c14
            have c14b1 : (t115 != t117) = true := bne_iff_ne.mpr c14
            have H' := Aside0.mk H
            clear H
            go_wp2
            go_meet
            case rel => exact ⟨_, (false), (by first | rfl | (simp; done) | (simp [*]; done)), H', ⟨by first | omega | exact Nat.le_refl _⟩, ⟨by repeat (first | (with_reducible first | exact HB.out | apply below_alloc | apply pw_below_drewN | apply below_drew1) | exact HB.out)⟩⟩
        · rw [if_neg c13] at H
          have c13b0 : (t114 == t116) = false := beq_eq_false_iff_ne.mpr c13
          have c13b1 : (t114 != t116) = true := bne_iff_ne.mpr c13
          have H' := Aside0.mk H
          clear H
          go_wp2
          go_meet
          case rel => exact ⟨_, (false), (by first | rfl | (simp; done) | (simp [*]; done)), H', ⟨by first | omega | exact Nat.le_refl _⟩, ⟨by repeat (first | (with_reducible first | exact HB.out | apply below_alloc | apply pw_below_drewN | apply below_drew1) | exact HB.out)⟩⟩
      · rw [if_neg c12] at H
        have c12b0 : (t111 == t113) = false := beq_eq_false_iff_ne.mpr c12
        have c12b1 : (t111 != t113) = true := bne_iff_ne.mpr c12
        have H' := Aside0.mk H
        clear H
        go_wp2
        go_meet
        case rel => exact ⟨_, (false), (by first | rfl | (simp; done) | (simp [*]; done)), H', ⟨by first | omega | exact Nat.le_refl _⟩, ⟨by repeat (first | (with_reducible first | exact HB.out | apply below_alloc | apply pw_below_drewN | apply below_drew1) | exact HB.out)⟩⟩
    · rw [if_neg c11] at H
      have c11b0 : (t110 == t112) = false := beq_eq_false_iff_ne.mpr c11
      have c11b1 : (t110 != t112) = true := bne_iff_ne.mpr c11
      (first | rw [c11b0] | (simp only [i64_w, i32_w]; rw [c11b0]) | skip)
      have H' := Aside0.mk H
      clear H
      go_wp2
      go_meet
      case rel => exact ⟨_, (false), (by first | rfl | (simp; done) | (simp [*]; done)), H', ⟨by first | omega | exact Nat.le_refl _⟩, ⟨by repeat (first | (with_reducible first | exact HB.out | apply below_alloc | apply pw_below_drewN | apply below_drew1) | exact HB.out)⟩⟩
  case rest =>
    clear HC9
    try clear c1
    try clear c2
    try clear p2
    try clear c3
    try clear c9
    try clear c10
    try clear c11
    try clear c11b0
    try clear c11b1
    try clear c12
    try clear c12b0
    try clear c12b1
    try clear c13
    try clear c13b0
    try clear c13b1
    try clear c14
    try clear c14b0
    try clear c14b1
    try clear c17
    try clear c17b0
    try clear c17b1
    try clear c20
    try clear c20b0
    try clear c20b1
    obtain ⟨kq, x16_8, rfl, HA, HJ8, HB⟩ := hcut
    cases kq with
    | zero => exact absurd HA.out (by simp [sawtoothlaw01_SafeTells.j0])
    | succ kj8 =>
      have H := HA.out
      clear HA
      simp only [sawtoothlaw01_SafeTells.j0] at H
      by_cases c29 : t109 = true
      · subst c29
        have H1 : (if x16_8 = true then ((safe_Abs.f a0).bind fun t124 => ((sawtoothref01_Abs.f kj8 a0).bind fun t125 => (if t124 = t125 then ((safe_Clamp.f a0 a1 a2).bind fun t126 => ((sawtoothref01_Clamp.f a0 a1 a2).bind fun t127 => (some (t126 == t127)))) else (some false)))) else (some false)) = some r := by rw [if_pos rfl] at H; exact H
        clear H
        have H := H1
        clear H1
        by_cases c30 : x16_8 = true
        · subst c30
          have H1 : ((safe_Abs.f a0).bind fun t124 => ((sawtoothref01_Abs.f kj8 a0).bind fun t125 => (if t124 = t125 then ((safe_Clamp.f a0 a1 a2).bind fun t126 => ((sawtoothref01_Clamp.f a0 a1 a2).bind fun t127 => (some (t126 == t127)))) else (some false)))) = some r := by rw [if_pos rfl] at H; exact H
          clear H
          have H := H1
          clear H1
          replace H := Option.bind_eq_some_iff.mp H
          obtain ⟨t124, A310, H⟩ := H
          replace H : ((sawtoothref01_Abs.f kj8 a0).bind fun t125 => (if t124 = t125 then ((safe_Clamp.f a0 a1 a2).bind fun t126 => ((sawtoothref01_Clamp.f a0 a1 a2).bind fun t127 => (some (t126 == t127)))) else (some false))) = some r := H
          have A31 := Aside0.mk A310
          clear A310
          replace H := Option.bind_eq_some_iff.mp H
          obtain ⟨t125, A320, H⟩ := H
          replace H : (if t124 = t125 then ((safe_Clamp.f a0 a1 a2).bind fun t126 => ((sawtoothref01_Clamp.f a0 a1 a2).bind fun t127 => (some (t126 == t127)))) else (some false)) = some r := H
          have A32 := Aside0.mk A320
          clear A320
          by_cases c33 : t124 = t125
          · rw [if_pos c33] at H
            have c33b0 : (t124 == t125) = true := beq_iff_eq.mpr c33
            have c33b1 : (t124 != t125) = false := bne_eq_false_iff_eq.mpr c33
            clear c33
            replace H := Option.bind_eq_some_iff.mp H
            obtain ⟨t126, A340, H⟩ := H
            replace H : ((sawtoothref01_Clamp.f a0 a1 a2).bind fun t127 => (some (t126 == t127))) = some r := H
            have A34 := Aside0.mk A340
            clear A340
            replace H := Option.bind_eq_some_iff.mp H
            obtain ⟨t127, A350, H⟩ := H
            replace H : (some (t126 == t127)) = some r := H
            have A35 := Aside0.mk A350
            clear A350
            obtain rfl := Option.some.inj H
            go_wp2_with (first | (go_at_call 20; (with_reducible refine (safe_Abs.calls a0 t124 _ A31.out).mono ?_); rintro e w36 ⟨rfl, hb⟩; have n0_ := Aside0.mk (below_step (by repeat (first | (with_reducible first | exact HB.out | apply below_alloc | apply pw_below_drewN | apply below_drew1) | exact HB.out)) hb); clear HB; have HB := n0_; clear n0_; (try clear hb); (try clear hb2); (try clear hk); (try clear hi)) | (go_at_call 21; (with_reducible refine (sawtoothref01_Abs.calls kj8 a0 t125 _ A32.out).mono ?_); rintro e w' ⟨rfl, ⟨nd, rfl⟩⟩) | (go_at_call 22; (with_reducible refine (safe_Clamp.calls a0 a1 a2 t126 _ A34.out).mono ?_); rintro e w37 ⟨rfl, hb⟩; have n0_ := Aside0.mk (below_step (by repeat (first | (with_reducible first | exact HB.out | apply below_alloc | apply pw_below_drewN | apply below_drew1) | exact HB.out)) hb); clear HB; have HB := n0_; clear n0_; (try clear hb); (try clear hb2); (try clear hk); (try clear hi)) | (go_at_call 23; (with_reducible refine (sawtoothref01_Clamp.calls a0 a1 a2 t127 _ A35.out).mono ?_); rintro e w' ⟨rfl, ⟨nd, rfl⟩⟩))
            go_ret
            exact ⟨by first | rfl | (simp [errW_none, errW_some] <;> rfl) | (simp [*, errW_none, errW_some] <;> rfl), by repeat (first | (with_reducible first | exact HB.out | apply below_alloc | apply pw_below_drewN | apply below_drew1) | exact HB.out)⟩
          · rw [if_neg c33] at H
            have c33b0 : (t124 == t125) = false := beq_eq_false_iff_ne.mpr c33
            have c33b1 : (t124 != t125) = true := bne_iff_ne.mpr c33
            exact absurd ((Option.some.inj H).trans hr_) (by simp)
        · replace c30 := Bool.eq_false_iff.mpr c30
          subst c30
          have H1 : (some false) = some r := by rw [if_neg (show ¬ (false = true) by decide)] at H; exact H
          clear H
          have H := H1
          clear H1
          exact absurd ((Option.some.inj H).trans hr_) (by simp)
      · replace c29 := Bool.eq_false_iff.mpr c29
        subst c29
        have H1 : (some false) = some r := by rw [if_neg (show ¬ (false = true) by decide)] at H; exact H
        clear H
        have H := H1
        clear H1
        exact absurd ((Option.some.inj H).trans hr_) (by simp)

/-- THE ONE PURE STATEMENT of sawtoothlaw01_SafeTells: yours. -/
def sawtoothlaw01_SafeTells.Pure : Prop := ∀ (a0 : Int) (a1 : Int) (a2 : Int), (Lit.int .i64 a0).wf = true → (Lit.int .i64 a1).wf = true → (Lit.int .i64 a2).wf = true → ∃ k, sawtoothlaw01_SafeTells.f k a0 a1 a2 = some true
theorem sawtoothlaw01_SafeTells.walk (P : sawtoothlaw01_SafeTells.Pure) (a0 : Int) (a1 : Int) (a2 : Int) (w : World) (w0 : (Lit.int .i64 a0).wf = true) (w1 : (Lit.int .i64 a1).wf = true) (w2 : (Lit.int .i64 a2).wf = true) :
    Calls Try.prog 3 #[.int .i64 a0, .int .i64 a1, .int .i64 a2] w fun e w' => e = .returned (.bool true) ∧ Below w.heap.size w w' := by
  obtain ⟨k, h⟩ := P a0 a1 a2 w0 w1 w2
  refine (sawtoothlaw01_SafeTells.calls k a0 a1 a2 true w h rfl).mono ?_
  rintro e w' ⟨rfl, hd⟩
  exact ⟨rfl, hd⟩

end Go.Proofs.Ytdgnhmghniloiaa.Hp
