/- Functions of the program as Lean functions, each with its contract: the call comes to that answer. Told by wip/tools/handprint.py of this session. -/
import Derived.Test.YtdgnhmghniloiaaHpx0
import Derived.Test.YtdgnhmghniloiaaHpx1
import Derived.Test.YtdgnhmghniloiaaHpx2
namespace Go.Proofs.Ytdgnhmghniloiaa.Hp
open Go.RowKit Go.Proofs.YtdgnhmghniloiaaW.PrintWords Go.Proofs.YtdgnhmghniloiaaW.PrintLast Go.Proofs.YtdgnhmghniloiaaW.PrintMore
attribute [local go_sem] max2_int min2_int max_two min_two max_three min_three max_four min_four   -- for this text's walks alone
set_option linter.unusedVariables false
set_option linter.unusedSimpArgs false

-- NOT PRINTED: function 24 (safe_held)

/-! ### safe_Add: function 14 -/
def safe_Add.f (a0 a1 : Int) : Option Int := (safe_Plus.f a0 a1).bind fun r => if r.2 = 0 then some r.1 else if a0 < 0 then some (-9223372036854775808) else some 9223372036854775807
set_option maxHeartbeats 1600000 in
set_option maxRecDepth 100000 in
theorem safe_Add.calls (a0 a1 : Int) (r : Int) (w : World) (h : safe_Add.f a0 a1 = some r) :
    Calls Try.prog 14 #[.int .i64 a0, .int .i64 a1] w fun e w' => e = .returned (.int .i64 r) ∧ Below w.heap.size w w' := by
  have hmf : ∀ (fn : Fn) (first cap : Array Value) (w : World), (Instr.makeFunc fn first cap).run Try.prog w = .ok (.func fn first cap) w := fun _ _ _ _ => rfl
  obtain ⟨⟨n, c⟩, hp0, h⟩ := Option.bind_eq_some_iff.mp h
  have hp := Aside0.mk hp0
  clear hp0
  by_cases h1 : c = 0
  · simp only [if_pos h1] at h
    obtain rfl := Option.some.inj h
    subst h1
    clear h
    go_enter Try.func14, Try.ntmps14
    go_wp2_with (first | (go_at_call 10; refine (safe_Plus.calls a0 a1 n 0 _ hp.out).mono ?_; rintro ev w1 ⟨rfl, ⟨⟨nq, rfl⟩⟩⟩) | go_in)
    go_ret
    refine ⟨by simp, ?_⟩
    repeat (first | exact Below.refl _ _ | refine pw_below_drewN ?_ _ | refine Below.alloc ?_ (by simp <;> omega) _)
  · have b1 : (c == 0) = false := beq_eq_false_iff_ne.2 h1
    simp only [if_neg h1] at h
    clear h1
    by_cases h2 : a0 < 0
    · rw [if_pos h2] at h
      have b2 : decide (a0 < 0) = true := decide_eq_true h2
      obtain rfl := Option.some.inj h
      clear h
      go_enter Try.func14, Try.ntmps14
      go_wp2_with (first | (go_at_call 10; refine (safe_Plus.calls a0 a1 n c _ hp.out).mono ?_; rintro ev w1 ⟨rfl, ⟨⟨nq, rfl⟩⟩⟩) | go_in)
      go_ret
      refine ⟨by simp, ?_⟩
      repeat (first | exact Below.refl _ _ | refine pw_below_drewN ?_ _ | refine Below.alloc ?_ (by simp <;> omega) _)
    · rw [if_neg h2] at h
      have b2 : decide (a0 < 0) = false := decide_eq_false h2
      obtain rfl := Option.some.inj h
      clear h
      go_enter Try.func14, Try.ntmps14
      go_wp2_with (first | (go_at_call 10; refine (safe_Plus.calls a0 a1 n c _ hp.out).mono ?_; rintro ev w1 ⟨rfl, ⟨⟨nq, rfl⟩⟩⟩) | go_in)
      go_ret
      refine ⟨by simp, ?_⟩
      repeat (first | exact Below.refl _ _ | refine pw_below_drewN ?_ _ | refine Below.alloc ?_ (by simp <;> omega) _)

/-! ### safe_unit: function 26 -/
def safe_unit.f (a0 : Int) : Option (Int) := if a0 < 0 then (some 1) else (some 0)
set_option maxHeartbeats 8000000 in
set_option maxRecDepth 100000 in
theorem safe_unit.calls (a0 : Int) (r : Int) (w : World) (h : safe_unit.f a0 = some r) :
    Calls Try.prog 26 #[.int .i64 a0] w fun e w' => e = .returned (.int .i64 r) ∧ Drawn0 w w' := by
  have H : (if a0 < 0 then (some 1) else (some 0)) = some r := h
  clear h
  by_cases c2 : a0 < 0
  · rw [if_pos c2] at H
    have c2b0 : decide (a0 < 0) = true := decide_eq_true c2
    clear c2
    obtain rfl := Option.some.inj H
    go_enter Try.func26, Try.ntmps26
    go_wp2
    go_ret
    exact ⟨by first | rfl | (simp; done) | (simp [*]; done), by repeat (first | exact Drawn0.refl _ | apply Drawn0.step)⟩
  · rw [if_neg c2] at H
    have c2b0 : decide (a0 < 0) = false := decide_eq_false c2
    clear c2
    obtain rfl := Option.some.inj H
    go_enter Try.func26, Try.ntmps26
    go_wp2
    go_ret
    exact ⟨by first | rfl | (simp; done) | (simp [*]; done), by repeat (first | exact Drawn0.refl _ | apply Drawn0.step)⟩

/-! ### safe_Sub: function 16 -/
def safe_Sub.f (a0 a1 : Int) : Option Int := if a1 = -9223372036854775808 then (safe_Add.f a0 9223372036854775807).bind fun x => if a0 < 0 then safe_Add.f x 1 else safe_Add.f x 0 else safe_Add.f a0 (wrap64 (-a1))
set_option maxHeartbeats 1600000 in
set_option maxRecDepth 100000 in
theorem safe_Sub.calls (a0 a1 : Int) (r : Int) (w : World) (h : safe_Sub.f a0 a1 = some r) :
    Calls Try.prog 16 #[.int .i64 a0, .int .i64 a1] w fun e w' => e = .returned (.int .i64 r) ∧ Below w.heap.size w w' := by
  unfold safe_Sub.f at h
  by_cases h1 : a1 = -9223372036854775808
  · rw [if_pos h1] at h
    subst h1
    obtain ⟨x, hx, h⟩ := Option.bind_eq_some_iff.mp h
    have hx := Aside0.mk hx
    by_cases h2 : a0 < 0
    · rw [if_pos h2] at h
      have h := Aside0.mk h
      have b2 : decide (a0 < 0) = true := decide_eq_true h2
      clear h2
      go_enter Try.func16, Try.ntmps16
      go_wp2_with fail
      refine (safe_Add.calls _ _ x _ hx.out).mono ?_
      rintro ev w1 ⟨rfl, hb1⟩
      go_wp2_with fail
      go_in
      go_wp2_with fail
      refine (safe_Add.calls _ _ r _ h.out).mono ?_
      rintro ev w2 ⟨rfl, hb2⟩
      go_wp2
      go_ret
      exact ⟨by simp, hb1.trans (hb2.mono hb1.size)⟩
    · rw [if_neg h2] at h
      have h := Aside0.mk h
      have b2 : decide (a0 < 0) = false := decide_eq_false h2
      clear h2
      go_enter Try.func16, Try.ntmps16
      go_wp2_with fail
      refine (safe_Add.calls _ _ x _ hx.out).mono ?_
      rintro ev w1 ⟨rfl, hb1⟩
      go_wp2_with fail
      go_in
      go_wp2_with fail
      refine (safe_Add.calls _ _ r _ h.out).mono ?_
      rintro ev w2 ⟨rfl, hb2⟩
      go_wp2
      go_ret
      exact ⟨by simp, hb1.trans (hb2.mono hb1.size)⟩
  · rw [if_neg h1] at h
    have h := Aside0.mk h
    have b1 : (a1 == -9223372036854775808) = false := beq_eq_false_iff_ne.2 h1
    clear h1
    go_enter Try.func16, Try.ntmps16
    go_wp2_with fail
    refine (safe_Add.calls _ _ r _ h.out).mono ?_
    rintro ev w1 ⟨rfl, hb1⟩
    go_wp2
    go_ret
    exact ⟨by simp, hb1⟩

/-! ### safe_Mul: function 18 -/
def safe_Mul.f (a0 a1 : Int) : Option Int := (safe_Times.f a0 a1).bind fun r => if r.2 = 0 then some r.1 else if ((decide (a0 < 0)) != (decide (a1 < 0))) = true then some (-9223372036854775808) else some 9223372036854775807
set_option maxHeartbeats 1600000 in
set_option maxRecDepth 100000 in
theorem safe_Mul.calls (a0 a1 : Int) (r : Int) (w : World) (h : safe_Mul.f a0 a1 = some r) :
    Calls Try.prog 18 #[.int .i64 a0, .int .i64 a1] w fun e w' => e = .returned (.int .i64 r) ∧ Below w.heap.size w w' := by
  have hmf : ∀ (fn : Fn) (first cap : Array Value) (w : World), (Instr.makeFunc fn first cap).run Try.prog w = .ok (.func fn first cap) w := fun _ _ _ _ => rfl
  obtain ⟨⟨n, c⟩, hp0, h⟩ := Option.bind_eq_some_iff.mp h
  have hp := Aside0.mk hp0
  clear hp0
  by_cases h1 : c = 0
  · simp only [if_pos h1] at h
    obtain rfl := Option.some.inj h
    subst h1
    clear h
    go_enter Try.func18, Try.ntmps18
    go_wp2_with (first | (go_at_call 12; refine (safe_Times.calls a0 a1 n 0 _ hp.out).mono ?_; rintro ev w1 ⟨rfl, ⟨⟨nq, rfl⟩⟩⟩) | go_in)
    go_ret
    refine ⟨by simp, ?_⟩
    repeat (first | exact Below.refl _ _ | refine pw_below_drewN ?_ _ | refine Below.alloc ?_ (by simp <;> omega) _)
  · have b1 : (c == 0) = false := beq_eq_false_iff_ne.2 h1
    simp only [if_neg h1] at h
    clear h1
    obtain ⟨x, hx⟩ : ∃ x : Bool, x = decide (a0 < 0) := ⟨_, rfl⟩
    obtain ⟨y, hy⟩ : ∃ y : Bool, y = decide (a1 < 0) := ⟨_, rfl⟩
    rw [← hx, ← hy] at h
    have b2 := hx.symm
    have b3 := hy.symm
    clear hx hy
    cases x <;> cases y <;> simp at h <;> subst h
    all_goals go_enter Try.func18, Try.ntmps18
    all_goals go_wp2_with (first | (go_at_call 12; refine (safe_Times.calls a0 a1 n c _ hp.out).mono ?_; rintro ev w1 ⟨rfl, ⟨⟨nq, rfl⟩⟩⟩) | go_in)
    all_goals go_ret
    all_goals refine ⟨by simp, ?_⟩
    all_goals repeat (first | exact Below.refl _ _ | refine pw_below_drewN ?_ _ | refine Below.alloc ?_ (by simp <;> omega) _)

/-! ### safe_Abs: function 20 -/
def safe_Abs.f (a0 : Int) : Option (Int) := (safe_Sub.f 0 a0).bind fun t101 => (if a0 < t101 then (some t101) else (some a0))
set_option maxHeartbeats 8000000 in
set_option maxRecDepth 100000 in
theorem safe_Abs.calls (a0 : Int) (r : Int) (w : World) (h : safe_Abs.f a0 = some r) :
    Calls Try.prog 20 #[.int .i64 a0] w fun e w' => e = .returned (.int .i64 r) ∧ Below w.heap.size w w' := by
  have HB := Aside0.mk (Below.refl w.heap.size w)
  have H : ((safe_Sub.f 0 a0).bind fun t101 => (if a0 < t101 then (some t101) else (some a0))) = some r := h
  clear h
  replace H := Option.bind_eq_some_iff.mp H
  obtain ⟨t101, A20, H⟩ := H
  replace H : (if a0 < t101 then (some t101) else (some a0)) = some r := H
  have A2 := Aside0.mk A20
  clear A20
  by_cases c3 : a0 < t101
  · rw [if_pos c3] at H
    have c3i := eq_true c3
    have c3b0 : decide (a0 < t101) = true := decide_eq_true c3
    clear c3
    obtain rfl := Option.some.inj H
    go_enter Try.func20, Try.ntmps20
    go_wp2_with (first | ((with_reducible refine gate_callee (f := 16) rfl ?_); refine goesL_ (some 5) rfl rfl Try.func16 (by kernel_rfl) rfl #[.int .i64 0, .int .i64 a0] rfl (by (try simp only [List.map_toArray, List.map_cons, List.map_nil]); first | done | rfl | (simp only [List.length_drop, List.length_take]; rfl)) ?_; (with_reducible refine (safe_Sub.calls 0 a0 t101 _ A2.out).mono ?_); rintro e w4 ⟨rfl, hb⟩; refine ⟨_, rfl, ?_⟩; have n0_ := Aside0.mk (below_step (by repeat (first | (with_reducible first | exact HB.out | apply below_alloc | apply pw_below_drewN | apply below_drew1) | exact HB.out)) hb); clear HB; have HB := n0_; clear n0_; (try clear hb); (try clear hb2); (try clear hk); (try clear hi)))
    go_ret
    exact ⟨by first | rfl | (simp [errW_none, errW_some] <;> rfl) | (simp [*, errW_none, errW_some] <;> rfl), by repeat (first | (with_reducible first | exact HB.out | apply below_alloc | apply pw_below_drewN | apply below_drew1) | exact HB.out)⟩
  · rw [if_neg c3] at H
    have c3i := eq_false c3
    have c3b0 : decide (a0 < t101) = false := decide_eq_false c3
    clear c3
    obtain rfl := Option.some.inj H
    go_enter Try.func20, Try.ntmps20
    go_wp2_with (first | ((with_reducible refine gate_callee (f := 16) rfl ?_); refine goesL_ (some 5) rfl rfl Try.func16 (by kernel_rfl) rfl #[.int .i64 0, .int .i64 a0] rfl (by (try simp only [List.map_toArray, List.map_cons, List.map_nil]); first | done | rfl | (simp only [List.length_drop, List.length_take]; rfl)) ?_; (with_reducible refine (safe_Sub.calls 0 a0 t101 _ A2.out).mono ?_); rintro e w5 ⟨rfl, hb⟩; refine ⟨_, rfl, ?_⟩; have n0_ := Aside0.mk (below_step (by repeat (first | (with_reducible first | exact HB.out | apply below_alloc | apply pw_below_drewN | apply below_drew1) | exact HB.out)) hb); clear HB; have HB := n0_; clear n0_; (try clear hb); (try clear hb2); (try clear hk); (try clear hi)))
    go_ret
    exact ⟨by first | rfl | (simp [errW_none, errW_some] <;> rfl) | (simp [*, errW_none, errW_some] <;> rfl), by repeat (first | (with_reducible first | exact HB.out | apply below_alloc | apply pw_below_drewN | apply below_drew1) | exact HB.out)⟩

end Go.Proofs.Ytdgnhmghniloiaa.Hp
