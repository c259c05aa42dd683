/- Small functions, each at the arguments that matter: the call comes to that answer. -/
import Derived.Test.YtpkjdjhojbadhaaGreatDoorTop3
import Derived.WalkMore
set_option linter.unusedVariables false
set_option linter.unusedSimpArgs false
namespace Go.Proofs.YtpkjdjhojbadhaaGreatDoor.Hp
open Go.RowKit Go.Proofs.YtpkjdjhojbadhaaGreatDoorW.PrintWords Go.Proofs.YtpkjdjhojbadhaaGreatDoorW.PrintLast Go.Proofs.YtpkjdjhojbadhaaGreatDoorW.PrintMore
attribute [local go_sem] max2_int min2_int max_two min_two max_three min_three max_four min_four
set_option maxHeartbeats 1600000 in
set_option maxRecDepth 100000 in
theorem hyCheck.calls (a b c : Int) (w : World) (h0 : 0 ≤ a) (h1 : a ≤ 1073741824) (h2 : 0 ≤ b) (h3 : b ≤ 1073741824) (h4 : 0 ≤ c) (h5 : c ≤ 8) (h6 : (c == 0) = (b == 0)) :
    Calls Tryz.prog 43 #[.agg #[.int .i64 (a), .int .i64 (b), .int .i64 (c), .bool false, .bool false, .int .i64 0, .int .i64 0]] w fun e w' => e = .returned (.bool true) ∧ Below w.heap.size w w' := by
  have hb : ((c == 0) == (b == 0)) = true := by rw [h6]; simp
  have c4 : decide (c ≥ 0) = true := decide_eq_true h4
  have c5 : decide (c ≤ 8) = true := decide_eq_true h5
  clear h6
  go_enter Tryz.func43, Tryz.ntmps43
  go_wp2
  go_ret
  exact ⟨rfl, (by (repeat (first | with_reducible exact HB.out | with_reducible exact Below.refl _ _ | with_reducible apply below_alloc | with_reducible apply pw_below_drewN | with_reducible apply below_drew1 | (with_reducible refine below_set ?_ ?hy; (case hy => omega)))))⟩
set_option maxHeartbeats 1600000 in
set_option maxRecDepth 100000 in
theorem step.calls (a b : Int) (w : World) (h0 : 0 ≤ b) (h1 : b ≤ 1099511627776) (h2 : a ≤ b) :
    Calls Tryz.prog 19 #[.int .i64 (a), .int .i64 (b)] w fun e w' => e = .returned (.tuple #[.int .i64 (b), .int .i64 0]) ∧ Below w.heap.size w w' := by
  have hmf : ∀ (fn : Fn) (first cap : Array Value) (w : World), (Instr.makeFunc fn first cap).run Tryz.prog w = .ok (.func fn first cap) w := fun _ _ _ _ => rfl
  have c1 : decide (b ≤ 1099511627776) = true := decide_eq_true h1
  have c2 : decide (b ≥ 0) = true := decide_eq_true h0
  have c3 : decide (b < a) = false := decide_eq_false (by omega)
  go_enter Tryz.func19, Tryz.ntmps19
  go_wp2
  go_ret2
  exact ⟨rfl, (by (repeat (first | with_reducible exact HB.out | with_reducible exact Below.refl _ _ | with_reducible apply below_alloc | with_reducible apply pw_below_drewN | with_reducible apply below_drew1 | (with_reducible refine below_set ?_ ?hy; (case hy => omega)))))⟩
set_option maxHeartbeats 1600000 in
set_option maxRecDepth 100000 in
theorem send.calls (s n room : Int) (w : World) (h0 : 0 ≤ s) (h1 : 1 ≤ n) (h2 : n ≤ room) (h3 : s + n < 9223372036854775808) (h4 : room < 9223372036854775808) :
    Calls Tryz.prog 57 #[.agg #[.int .i64 (s), .int .i64 (s), .int .i64 0], .int .i64 (n), .int .i64 (room)] w fun e w' => e = .returned (.tuple #[.agg #[.int .i64 (s + n), .int .i64 (s), .int .i64 (n)], .int .i64 0]) ∧ Below w.heap.size w w' := by
  have e1 : wrap64 (s + n) = s + n := wrap64_id _ (by omega) h3
  have e2 : wrap64 (9223372036854775807 - n) = 9223372036854775807 - n := wrap64_id _ (by omega) (by omega)
  have e3 : wrap64 (s - s) = 0 := by rw [Int.sub_self]; simp [wrap64]
  have e5 : wrap64 (0 + n) = n := by rw [Int.zero_add]; exact wrap64_id _ (by omega) (by omega)
  have e4 : wrap64 room = room := wrap64_id _ (by omega) h4
  have e6 : wrap64 n = n := wrap64_id _ (by omega) (by omega)
  have c0 : decide (s ≥ 0) = true := decide_eq_true h0
  have c1 : decide (n < 1) = false := decide_eq_false (by omega)
  have c2 : decide (s > 9223372036854775807 - n) = false := decide_eq_false (by omega)
  have c3 : decide (n > room) = false := decide_eq_false (by omega)
  have c4 : decide (room < 0) = false := decide_eq_false (by omega)
  go_enter Tryz.func57, Tryz.ntmps57
  go_wp2
  refine bodyPost_ret (v := .tuple #[.agg #[.int .i64 (s + n), .int .i64 (s), .int .i64 (n)], .int .i64 0]) (by simp [results, go_sem]) rfl ⟨rfl, ?_⟩
  exact (by (repeat (first | with_reducible exact HB.out | with_reducible exact Below.refl _ _ | with_reducible apply below_alloc | with_reducible apply pw_below_drewN | with_reducible apply below_drew1 | (with_reducible refine below_set ?_ ?hy; (case hy => omega)))))
set_option maxHeartbeats 1600000 in
set_option maxRecDepth 100000 in
theorem fack.calls (t n : Int) (w : World) (h0 : 0 ≤ t) (h1 : 1 ≤ n) (h3 : t + n < 9223372036854775808) :
    Calls Tryz.prog 60 #[.agg #[.int .i64 (t + n), .int .i64 (t), .int .i64 (n)], .int .i64 (n)] w fun e w' => e = .returned (.tuple #[.agg #[.int .i64 (t + n), .int .i64 (t + n), .int .i64 0], .int .i64 0]) ∧ Below w.heap.size w w' := by
  have e1 : wrap64 (t + n) = t + n := wrap64_id _ (by omega) h3
  have e3 : wrap64 (n - n) = 0 := by rw [Int.sub_self]; simp [wrap64]
  have e5 : wrap64 (t + n - t) = n := by rw [show t + n - t = n by omega]; exact wrap64_id _ (by omega) (by omega)
  have c0 : decide (t + n ≥ 0) = true := decide_eq_true (by omega)
  have c1 : decide (n < 1) = false := decide_eq_false (by omega)
  have c2 : decide (t ≥ 0) = true := decide_eq_true h0
  have c3 : decide (n ≥ 0) = true := decide_eq_true (by omega)
  have c4 : decide (t ≤ t + n) = true := decide_eq_true (by omega)
  have c6 : decide (n ≤ n) = true := decide_eq_true (by omega)
  have c7 : decide (n > n) = false := decide_eq_false (by omega)
  go_enter Tryz.func60, Tryz.ntmps60
  go_wp2
  refine bodyPost_ret (v := .tuple #[.agg #[.int .i64 (t + n), .int .i64 (t + n), .int .i64 0], .int .i64 0]) (by simp [results, go_sem]) rfl ?_
  go_wp2
  refine bodyPost_ret (v := .tuple #[.agg #[.int .i64 (t + n), .int .i64 (t + n), .int .i64 0], .int .i64 0]) (by simp [results, go_sem]) rfl ⟨rfl, ?_⟩
  exact (by (repeat (first | with_reducible exact HB.out | with_reducible exact Below.refl _ _ | with_reducible apply below_alloc | with_reducible apply pw_below_drewN | with_reducible apply below_drew1 | (with_reducible refine below_set ?_ ?hy; (case hy => omega)))))
set_option maxHeartbeats 1600000 in
set_option maxRecDepth 100000 in
theorem take.calls (a m n : Int) (w : World) (h0 : 0 ≤ a) (h1 : a ≤ 1099511627776) (h2 : 1 ≤ n) (h3 : n * 1000000 ≤ m) (h4 : m ≤ 1152921504606846976) :
    Calls Tryz.prog 58 #[.agg #[.int .i64 (a), .int .i64 (m)], .int .i64 (n)] w fun e w' => e = .returned (.tuple #[.agg #[.int .i64 (a), .int .i64 (m - n * 1000000)], .int .i64 0]) ∧ Below w.heap.size w w' := by
  have e1 : wrap64 (n * 1000000) = n * 1000000 := wrap64_id _ (by omega) (by omega)
  have e2 : wrap64 (m - n * 1000000) = m - n * 1000000 := wrap64_id _ (by omega) (by omega)
  have e3 : wrap64 (m / 1000000) = m / 1000000 := wrap64_id _ (by omega) (by omega)
  have e4 : Int.tdiv m 1000000 = m / 1000000 := Int.tdiv_eq_ediv_of_nonneg (by omega)
  have c0 : decide (a ≥ 0) = true := decide_eq_true h0
  have c1 : decide (a ≤ 1099511627776) = true := decide_eq_true h1
  have c2 : decide (n < 1) = false := decide_eq_false (by omega)
  have c3 : decide (m ≥ 0) = true := decide_eq_true (by omega)
  have c4 : decide (m ≤ 1152921504606846976) = true := decide_eq_true h4
  have c5 : decide (n > m / 1000000) = false := decide_eq_false (by omega)
  have c6 : (m == 0) = false := beq_eq_false_iff_ne.2 (by omega)
  go_enter Tryz.func58, Tryz.ntmps58
  go_wp2
  refine bodyPost_ret (v := .tuple #[.agg #[.int .i64 (a), .int .i64 (m - n * 1000000)], .int .i64 0]) (by simp [results, go_sem]) rfl ⟨rfl, ?_⟩
  exact (by (repeat (first | with_reducible exact HB.out | with_reducible exact Below.refl _ _ | with_reducible apply below_alloc | with_reducible apply pw_below_drewN | with_reducible apply below_drew1 | (with_reducible refine below_set ?_ ?hy; (case hy => omega)))))
set_option maxHeartbeats 1600000 in
set_option maxRecDepth 100000 in
theorem sample0.calls  (w : World) :
    Calls Tryz.prog 107 #[.agg #[.bool false, .int .i64 0, .int .i64 0], .int .i64 100000] w fun e w' => e = .returned (.tuple #[.agg #[.bool true, .int .i64 800000, .int .i64 200000], .int .i64 0]) ∧ Below w.heap.size w w' := by
  go_enter Tryz.func107, Tryz.ntmps107
  go_wp2
  refine bodyPost_ret (v := .agg #[.bool true, .int .i64 800000, .int .i64 200000]) (by simp [results, go_sem]) rfl ?_
  go_wp2
  refine bodyPost_ret (v := .tuple #[.agg #[.bool true, .int .i64 800000, .int .i64 200000], .int .i64 0]) (by simp [results, go_sem]) rfl ⟨rfl, ?_⟩
  exact (by (repeat (first | with_reducible exact HB.out | with_reducible exact Below.refl _ _ | with_reducible apply below_alloc | with_reducible apply pw_below_drewN | with_reducible apply below_drew1 | (with_reducible refine below_set ?_ ?hy; (case hy => omega)))))
set_option maxHeartbeats 1600000 in
set_option maxRecDepth 100000 in
theorem hyRound.calls (l : Int) (w : World) (h0 : 0 ≤ l) (h1 : l ≤ 1073741824) :
    Calls Tryz.prog 65 #[.agg #[.int .i64 (l), .int .i64 100000, .int .i64 1, .bool false, .bool false, .int .i64 0, .int .i64 0]] w fun e w' => e = .returned (.tuple #[.agg #[.int .i64 100000, .int .i64 0, .int .i64 0, .bool false, .bool false, .int .i64 0, .int .i64 0], .int .i64 0]) ∧ Below w.heap.size w w' := by
  have D := Aside0.mk (fun W => hyCheck.calls l 100000 1 W h0 h1 (by omega) (by omega) (by omega) (by omega) rfl)
  go_enter Tryz.func65, Tryz.ntmps65
  go_wp2
  refine bodyPost_ret (v := .tuple #[.agg #[.int .i64 100000, .int .i64 0, .int .i64 0, .bool false, .bool false, .int .i64 0, .int .i64 0], .int .i64 0]) (by simp [results, go_sem]) rfl ⟨rfl, ?_⟩
  exact (by (repeat (first | with_reducible exact HB.out | with_reducible exact Below.refl _ _ | with_reducible apply below_alloc | with_reducible apply pw_below_drewN | with_reducible apply below_drew1 | (with_reducible refine below_set ?_ ?hy; (case hy => omega)))))
set_option maxHeartbeats 1600000 in
set_option maxRecDepth 100000 in
theorem hySample.calls (l : Int) (w : World) (h0 : 0 ≤ l) (h1 : l ≤ 1073741824) :
    Calls Tryz.prog 110 #[.agg #[.int .i64 (l), .int .i64 0, .int .i64 0, .bool false, .bool false, .int .i64 0, .int .i64 0], .int .i64 100000] w fun e w' => e = .returned (.tuple #[.agg #[.int .i64 (l), .int .i64 100000, .int .i64 1, .bool false, .bool false, .int .i64 0, .int .i64 0], .int .i64 0]) ∧ Below w.heap.size w w' := by
  go_enter Tryz.func110, Tryz.ntmps110
  go_wp2
  refine bodyPost_ret (v := .tuple #[.agg #[.int .i64 (l), .int .i64 100000, .int .i64 1, .bool false, .bool false, .int .i64 0, .int .i64 0], .int .i64 0]) (by simp [results, go_sem]) rfl ⟨rfl, ?_⟩
  exact (by (repeat (first | with_reducible exact HB.out | with_reducible exact Below.refl _ _ | with_reducible apply below_alloc | with_reducible apply pw_below_drewN | with_reducible apply below_drew1 | (with_reducible refine below_set ?_ ?hy; (case hy => omega)))))
set_option maxHeartbeats 1600000 in
set_option maxRecDepth 100000 in
theorem rack.calls (i q s : Int) (w : World) (h0 : 0 ≤ i) (h1 : i < 9223372036854775807) (h2 : 0 ≤ q) (h3 : q ≤ s) :
    Calls Tryz.prog 62 #[.agg #[.int .i64 (i), .int .i64 (q)], .int .i64 (s), .int .i64 (s)] w fun e w' => e = .returned (.tuple #[.agg #[.int .i64 (i + 1), .int .i64 (s)], .bool true, .int .i64 0]) ∧ Below w.heap.size w w' := by
  have hmf : ∀ (fn : Fn) (first cap : Array Value) (w : World), (Instr.makeFunc fn first cap).run Tryz.prog w = .ok (.func fn first cap) w := fun _ _ _ _ => rfl
  have e1 : wrap64 (i + 1) = i + 1 := wrap64_id _ (by omega) (by omega)
  have c0 : decide (i ≥ 0) = true := decide_eq_true h0
  have c1 : decide (q ≥ 0) = true := decide_eq_true h2
  have c2 : decide (s < 0) = false := decide_eq_false (by omega)
  have c3 : decide (s < s) = false := decide_eq_false (by omega)
  have c4 : decide (s < q) = false := decide_eq_false (by omega)
  have c5 : (i == 9223372036854775807) = false := beq_eq_false_iff_ne.2 (by omega)
  go_enter Tryz.func62, Tryz.ntmps62
  go_wp2
  refine bodyPost_ret (v := .tuple #[.agg #[.int .i64 (i + 1), .int .i64 (s)], .bool true, .int .i64 0]) (by simp [results, go_sem]) rfl ⟨rfl, ?_⟩
  exact (by (repeat (first | with_reducible exact HB.out | with_reducible exact Below.refl _ _ | with_reducible apply below_alloc | with_reducible apply pw_below_drewN | with_reducible apply below_drew1 | (with_reducible refine below_set ?_ ?hy; (case hy => omega)))))
set_option maxHeartbeats 1600000 in
set_option maxRecDepth 100000 in
theorem add.calls (a b : Int) (w : World) (h0 : 0 ≤ a) (h1 : 0 ≤ b) (h2 : a + b < 9223372036854775808) :
    Calls Tryz.prog 49 #[.int .i64 (a), .int .i64 (b)] w fun e w' => e = .returned (.int .i64 (a + b)) ∧ Below w.heap.size w w' := by
  have hmf : ∀ (fn : Fn) (first cap : Array Value) (w : World), (Instr.makeFunc fn first cap).run Tryz.prog w = .ok (.func fn first cap) w := fun _ _ _ _ => rfl
  have e1 : wrap64 (a + b) = a + b := wrap64_id _ (by omega) h2
  have c0 : decide (a ≥ 0) = true := decide_eq_true h0
  have c1 : decide (b ≥ 0) = true := decide_eq_true h1
  have c2 : decide (a + b ≥ 0) = true := decide_eq_true (by omega)
  go_enter Tryz.func49, Tryz.ntmps49
  go_wp2
  go_ret
  exact ⟨rfl, (by (repeat (first | with_reducible exact HB.out | with_reducible exact Below.refl _ _ | with_reducible apply below_alloc | with_reducible apply pw_below_drewN | with_reducible apply below_drew1 | (with_reducible refine below_set ?_ ?hy; (case hy => omega)))))⟩
set_option maxHeartbeats 1600000 in
set_option maxRecDepth 100000 in
theorem addn.calls (a b : Int) (w : World) (h0 : 0 ≤ a) (h1 : b < 0) (h2 : 0 ≤ a + b) (h3 : a < 9223372036854775808) :
    Calls Tryz.prog 49 #[.int .i64 (a), .int .i64 (b)] w fun e w' => e = .returned (.int .i64 (a + b)) ∧ Below w.heap.size w w' := by
  have hmf : ∀ (fn : Fn) (first cap : Array Value) (w : World), (Instr.makeFunc fn first cap).run Tryz.prog w = .ok (.func fn first cap) w := fun _ _ _ _ => rfl
  have e1 : wrap64 (a + b) = a + b := wrap64_id _ (by omega) (by omega)
  have c0 : decide (a ≥ 0) = true := decide_eq_true h0
  have c1 : decide (b ≥ 0) = false := decide_eq_false (by omega)
  have c2 : decide (a + b ≥ 0) = true := decide_eq_true (by omega)
  go_enter Tryz.func49, Tryz.ntmps49
  go_wp2
  go_ret
  exact ⟨rfl, (by (repeat (first | with_reducible exact HB.out | with_reducible exact Below.refl _ _ | with_reducible apply below_alloc | with_reducible apply pw_below_drewN | with_reducible apply below_drew1 | (with_reducible refine below_set ?_ ?hy; (case hy => omega)))))⟩
set_option maxHeartbeats 1600000 in
set_option maxRecDepth 100000 in
theorem sub.calls (a b : Int) (w : World) (h0 : 0 ≤ b) (h1 : b ≤ a) (h2 : a < 9223372036854775808) :
    Calls Tryz.prog 99 #[.int .i64 (a), .int .i64 (b)] w fun e w' => e = .returned (.int .i64 (a - b)) ∧ Below w.heap.size w w' := by
  have e2 : wrap64 (-b) = -b := wrap64_id _ (by omega) (by omega)
  have c3 : (b == -9223372036854775808) = false := beq_eq_false_iff_ne.2 (by omega)
  have D := Aside0.mk (show ∀ W : World, Calls Tryz.prog 49 #[.int .i64 a, .int .i64 (-b)] W fun e w' => e = .returned (.int .i64 (a - b)) ∧ Below W.heap.size W w' from fun W => by
    rcases (by omega : b = 0 ∨ 0 < b) with hb | hb
    · subst hb
      exact (add.calls a 0 W h1 (by omega) (by omega)).mono (fun e w' h => ⟨by rw [h.1, Int.add_zero, Int.sub_zero], h.2⟩)
    · exact (addn.calls a (-b) W (by omega) (by omega) (by omega) h2).mono (fun e w' h => ⟨by rw [h.1]; rfl, h.2⟩))
  go_enter Tryz.func99, Tryz.ntmps99
  go_wp2_with fail
  refine (D.out _).mono ?_
  rintro ev w1 ⟨rfl, hb1⟩
  go_wp2
  go_ret
  exact ⟨by simp, hb1⟩
set_option maxHeartbeats 1600000 in
set_option maxRecDepth 100000 in
theorem mul.calls (a b : Int) (w : World) (h0 : 0 ≤ a) (h1 : 0 < b) (h2 : a * b < 9223372036854775808) :
    Calls Tryz.prog 50 #[.int .i64 (a), .int .i64 (b)] w fun e w' => e = .returned (.int .i64 (a * b)) ∧ Below w.heap.size w w' := by
  have hmf : ∀ (fn : Fn) (first cap : Array Value) (w : World), (Instr.makeFunc fn first cap).run Tryz.prog w = .ok (.func fn first cap) w := fun _ _ _ _ => rfl
  have n0 : 0 ≤ a * b := Int.mul_nonneg h0 (by omega)
  have e1 : wrap64 (a * b) = a * b := wrap64_id _ (by omega) h2
  have e4 : Int.tdiv (a * b) b = a := by rw [Int.tdiv_eq_ediv_of_nonneg n0]; exact Int.mul_ediv_cancel _ (by omega)
  have c0 : (a == -1) = false := beq_eq_false_iff_ne.2 (by omega)
  have c1 : (b == -1) = false := beq_eq_false_iff_ne.2 (by omega)
  have c2 : (b == 0) = false := beq_eq_false_iff_ne.2 (by omega)
  have c3 : ¬ b = 0 := by omega
  have c4 : a * b / b = a := Int.mul_ediv_cancel _ c3
  have c5 : a ≤ 9223372036854775807 := by
    have h9 : a * 1 ≤ a * b := Int.mul_le_mul_of_nonneg_left (by omega) h0
    omega
  have e5 : wrap64 a = a := wrap64_id _ (by omega) (by omega)
  go_enter Tryz.func50, Tryz.ntmps50
  go_wp2
  go_ret
  exact ⟨rfl, (by (repeat (first | with_reducible exact HB.out | with_reducible exact Below.refl _ _ | with_reducible apply below_alloc | with_reducible apply pw_below_drewN | with_reducible apply below_drew1 | (with_reducible refine below_set ?_ ?hy; (case hy => omega)))))⟩
set_option maxHeartbeats 1600000 in
set_option maxRecDepth 100000 in
theorem mean.calls (b : Bool) (m f : Int) (w : World) (h0 : 0 ≤ m) (h1 : m < 9223372036854775808) :
    Calls Tryz.prog 118 #[.agg #[.bool b, .int .i64 (m), .int .i64 (f)]] w fun e w' => e = .returned (.int .i64 (m / 8)) ∧ Below w.heap.size w w' := by
  have e4 : Int.tdiv m 8 = m / 8 := Int.tdiv_eq_ediv_of_nonneg h0
  have e1 : wrap64 (m / 8) = m / 8 := wrap64_id _ (by omega) (by omega)
  go_enter Tryz.func118, Tryz.ntmps118
  go_wp2
  go_ret
  exact ⟨rfl, (by (repeat (first | with_reducible exact HB.out | with_reducible exact Below.refl _ _ | with_reducible apply below_alloc | with_reducible apply pw_below_drewN | with_reducible apply below_drew1 | (with_reducible refine below_set ?_ ?hy; (case hy => omega)))))⟩
set_option maxHeartbeats 1600000 in
set_option maxRecDepth 100000 in
theorem far.calls (b : Bool) (m f : Int) (w : World) (h0 : 0 ≤ f) (h1 : f < 9223372036854775808) :
    Calls Tryz.prog 156 #[.agg #[.bool b, .int .i64 (m), .int .i64 (f)]] w fun e w' => e = .returned (.int .i64 (f / 4)) ∧ Below w.heap.size w w' := by
  have e4 : Int.tdiv f 4 = f / 4 := Int.tdiv_eq_ediv_of_nonneg h0
  have e1 : wrap64 (f / 4) = f / 4 := wrap64_id _ (by omega) (by omega)
  go_enter Tryz.func156, Tryz.ntmps156
  go_wp2
  go_ret
  exact ⟨rfl, (by (repeat (first | with_reducible exact HB.out | with_reducible exact Below.refl _ _ | with_reducible apply below_alloc | with_reducible apply pw_below_drewN | with_reducible apply below_drew1 | (with_reducible refine below_set ?_ ?hy; (case hy => omega)))))⟩
set_option maxHeartbeats 1600000 in
set_option maxRecDepth 100000 in
theorem fill0.calls (a m r c : Int) (w : World) (h0 : 0 ≤ a) (h1 : a ≤ 1099511627776) (h2 : 0 ≤ m) (h4 : m ≤ 1152921504606846976) (h5 : 0 ≤ c) (h6 : c ≤ 1099511627776) (h7 : c * 1000000 ≤ m) :
    Calls Tryz.prog 21 #[.agg #[.int .i64 (a), .int .i64 (m)], .int .i64 (a), .int .i64 (r), .int .i64 (c)] w fun e w' => e = .returned (.tuple #[.agg #[.int .i64 (a), .int .i64 (m)], .int .i64 0]) ∧ Below w.heap.size w w' := by
  have e1 : wrap64 (c * 1000000) = c * 1000000 := wrap64_id _ (by omega) (by omega)
  have c0 : decide (a ≥ 0) = true := decide_eq_true h0
  have c1 : decide (a ≤ 1099511627776) = true := decide_eq_true h1
  have c3 : decide (m ≥ 0) = true := decide_eq_true (by omega)
  have c4 : decide (m ≤ 1152921504606846976) = true := decide_eq_true h4
  have c5 : decide (m < c * 1000000) = false := decide_eq_false (by omega)
  have c6 : decide (c < 0) = false := decide_eq_false (by omega)
  have c7 : decide (1099511627776 < c) = false := decide_eq_false (by omega)
  have c8 : decide (a < a) = false := decide_eq_false (by omega)
  have hmf : ∀ (fn : Fn) (first cap : Array Value) (w : World), (Instr.makeFunc fn first cap).run Tryz.prog w = .ok (.func fn first cap) w := fun _ _ _ _ => rfl
  go_enter Tryz.func21, Tryz.ntmps21
  go_wp2
  go_step3
  go_wp2
  go_step3
  go_wp2
  rw [Exit.noGoto_ret]
  refine bodyPost_ret (v := .tuple #[.agg #[.int .i64 (a), .int .i64 (m)], .int .i64 0]) (by simp [results, go_sem]) rfl ⟨rfl, ?_⟩
  exact (by (repeat (first | with_reducible exact HB.out | with_reducible exact Below.refl _ _ | with_reducible apply below_alloc | with_reducible apply pw_below_drewN | with_reducible apply below_drew1 | (with_reducible refine below_set ?_ ?hy; (case hy => omega)))))

end Go.Proofs.YtpkjdjhojbadhaaGreatDoor.Hp
