/- Numbers: what the told functions big.Mul, big.Int, big.Cmp come to at numbers that are not negative; math/bits.Div64 where its high word is 0. -/
import Derived.Test.YtpkjdjhojbadhaaGreatDoorHpx0
import Derived.Test.YtpkjdjhojbadhaaGreatDoorHpx1
import Derived.Test.YtpkjdjhojbadhaaGreatDoorHpx2
import Derived.Test.YtpkjdjhojbadhaaGreatDoorHpx3
import Derived.Test.YtpkjdjhojbadhaaGreatDoorHpx4
import Derived.Test.YtpkjdjhojbadhaaGreatDoorHpx5
import Derived.Test.YtpkjdjhojbadhaaGreatDoorHpx6
import Derived.Test.YtpkjdjhojbadhaaGreatDoorHpx7
import Derived.Test.YtpkjdjhojbadhaaGreatDoorHpx8
import Derived.Test.YtpkjdjhojbadhaaGreatDoorHpx9
-- MERGED of Top1 Top2 Top3
set_option linter.unusedVariables false
set_option linter.unusedSimpArgs false
namespace Go.Proofs.YtpkjdjhojbadhaaGreatDoor.Hp
open Go.RowKit Go.Proofs.YtpkjdjhojbadhaaGreatDoorW.PrintWords Go.Proofs.YtpkjdjhojbadhaaGreatDoorW.PrintLast Go.Proofs.YtpkjdjhojbadhaaGreatDoorW.PrintMore
attribute [local go_sem] max2_int min2_int max_two min_two max_three min_three max_four min_four
theorem u64_id (n : Int) (h0 : 0 ≤ n) (h1 : n < 18446744073709551616) : IntKind.u64.wrap n = n := by
  simp [IntKind.wrap, IntKind.bits, IntKind.signed]; omega
theorem wrap64_id (n : Int) (h0 : -9223372036854775808 ≤ n) (h1 : n < 9223372036854775808) : wrap64 n = n := by
  simp [wrap64]; omega
theorem far_pos (n : Int) (h0 : 0 ≤ n) (h1 : n < 9223372036854775808) : big_far.f n = some n := by
  unfold big_far.f
  rw [if_neg (by omega), u64_id n h0 (by omega)]
theorem and32 (n : Int) (h0 : 0 ≤ n) (h1 : n < 9223372036854775808) : Go.bits .and .u64 n 4294967295 = n % 4294967296 := by
  obtain ⟨m, rfl⟩ := Int.eq_ofNat_of_zero_le h0
  have e : Go.bits .and .u64 (m : Int) 4294967295 = IntKind.u64.wrap ((m % 18446744073709551616 &&& (2 ^ 32 - 1) : Nat) : Int) := by
    have h3 : (BitVec.ofNat 64 m &&& 4294967295#64).toNat = (m % 18446744073709551616 &&& 4294967295) := by
      rw [BitVec.toNat_and, BitVec.toNat_ofNat, BitVec.toNat_ofNat]
    simp [Go.bits, IntKind.bits]
    exact congrArg (fun n : Nat => IntKind.u64.wrap (n : Int)) h3
  rw [e, Nat.and_two_pow_sub_one_eq_mod, u64_id _ (by omega) (by omega)]
  omega
theorem mul64_pos (a b : Int) (ha : 0 ≤ a) (hb : 0 ≤ b) (h1 : a < 9223372036854775808) (h2 : b < 9223372036854775808) (h : a * b < 9223372036854775808) : bits_Mul64.f a b = some (0, a * b) := by
  have hab : 0 ≤ a * b := Int.mul_nonneg ha hb
  obtain ⟨x0, hx0⟩ : ∃ x, x = a % 4294967296 := ⟨_, rfl⟩
  obtain ⟨x1, hx1⟩ : ∃ x, x = a / 4294967296 := ⟨_, rfl⟩
  obtain ⟨y0, hy0⟩ : ∃ x, x = b % 4294967296 := ⟨_, rfl⟩
  obtain ⟨y1, hy1⟩ : ∃ x, x = b / 4294967296 := ⟨_, rfl⟩
  have ea : a = x1 * 4294967296 + x0 := by omega
  have eb : b = y1 * 4294967296 + y0 := by omega
  have p0 : 0 ≤ x0 ∧ x0 ≤ 4294967295 := by omega
  have p1 : 0 ≤ x1 ∧ x1 ≤ 2147483647 := by omega
  have q0 : 0 ≤ y0 ∧ y0 ≤ 4294967295 := by omega
  have q1 : 0 ≤ y1 ∧ y1 ≤ 2147483647 := by omega
  have e : a * b = x1 * y1 * 18446744073709551616 + (x1 * y0 + x0 * y1) * 4294967296 + x0 * y0 := by
    rw [ea, eb]
    have d1 : (x1 * 4294967296 + x0) * (y1 * 4294967296 + y0) = x1 * 4294967296 * (y1 * 4294967296) + x1 * 4294967296 * y0 + (x0 * (y1 * 4294967296) + x0 * y0) := by rw [Int.add_mul, Int.mul_add, Int.mul_add]
    have d2 : x1 * 4294967296 * (y1 * 4294967296) = x1 * y1 * 18446744073709551616 := by rw [Int.mul_assoc, Int.mul_left_comm 4294967296 y1, ← Int.mul_assoc, ← Int.mul_assoc]; omega
    have d3 : x1 * 4294967296 * y0 = x1 * y0 * 4294967296 := by rw [Int.mul_assoc, Int.mul_comm 4294967296, ← Int.mul_assoc]
    have d4 : x0 * (y1 * 4294967296) = x0 * y1 * 4294967296 := by rw [← Int.mul_assoc]
    omega
  have m1 : 0 ≤ x1 * y1 := Int.mul_nonneg p1.1 q1.1
  have m2 : 0 ≤ x1 * y0 := Int.mul_nonneg p1.1 q0.1
  have m3 : 0 ≤ x0 * y1 := Int.mul_nonneg p0.1 q1.1
  have m4 : 0 ≤ x0 * y0 := Int.mul_nonneg p0.1 q0.1
  unfold bits_Mul64.f
  rw [and32 a ha h1, and32 b hb h2, ← hx0, ← hx1, ← hy0, ← hy1]
  generalize x1 * y1 = P1 at *
  generalize x1 * y0 = P2 at *
  generalize x0 * y1 = P3 at *
  generalize x0 * y0 = P4 at *
  rw [u64_id P4 (by omega) (by omega), u64_id P2 (by omega) (by omega), u64_id P3 (by omega) (by omega), u64_id P1 (by omega) (by omega), u64_id (P2 + P4 / 4294967296) (by omega) (by omega), and32 _ (by omega) (by omega)]
  rw [u64_id ((P2 + P4 / 4294967296) % 4294967296 + P3) (by omega) (by omega), u64_id (P1 + (P2 + P4 / 4294967296) / 4294967296) (by omega) (by omega), u64_id _ (by omega) (by omega), u64_id (a * b) (by omega) (by omega)]
  simp only [Option.some.injEq, Prod.mk.injEq, and_true]
  omega
theorem mul_pos (a b : Int) (ha : 0 ≤ a) (hb : 0 ≤ b) (h1 : a < 9223372036854775808) (h2 : b < 9223372036854775808) (h : a * b < 9223372036854775808) : big_Mul.f a b = some (false, 0, a * b) := by
  unfold big_Mul.f
  rw [far_pos a ha h1, far_pos b hb h2]
  have e1 : decide (a < 0) = false := decide_eq_false (by omega)
  have e2 : decide (b < 0) = false := decide_eq_false (by omega)
  simp [mul64_pos a b ha hb h1 h2 h, e1, e2, big_size_with.f]
theorem of_pos (n : Int) (h0 : 0 ≤ n) (h1 : n < 9223372036854775808) : big_Of.f n = some (false, 0, n) := by
  unfold big_Of.f
  rw [far_pos n h0 h1]
  have e1 : decide (n < 0) = false := decide_eq_false (by omega)
  simp [e1, big_size_with.f]
theorem cmp_pos (m n : Int) : big_Cmp.f 30 false 0 m false 0 n = some (if m = n then 0 else if m < n then -1 else 1) := by
  by_cases h : m = n
  · subst h
    simp [big_Cmp.f, big_of.f, big_size_with.f]
  · by_cases h2 : m < n
    · have h3 : ¬ n < m := by omega
      simp [big_Cmp.f, big_of.f, big_size_with.f, h, h2, big_Cmp.j0, big_size_cmp.f, cmp_Compare_uint64.f, cmp_isNaN_uint64.f, cmp_Or_int.f, cmp_Or_int.l0, rd, wrap64]
    · have h3 : n < m := by omega
      simp [big_Cmp.f, big_of.f, big_size_with.f, h, h2, h3, big_Cmp.j0, big_size_cmp.f, cmp_Compare_uint64.f, cmp_isNaN_uint64.f, cmp_Or_int.f, cmp_Or_int.l0, rd, wrap64]
theorem int_pos (n : Int) (h0 : 0 ≤ n) (h1 : n < 9223372036854775808) : big_Int.f 30 false 0 n = some n := by
  unfold big_Int.f
  rw [of_pos 9223372036854775807 (by omega) (by omega)]
  have e : big_Of.f (-9223372036854775808) = some (true, 0, 9223372036854775808) := by decide
  rw [e]
  simp only [Option.bind_some, cmp_pos]
  have e2 : big_Cmp.f 30 false 0 n true 0 9223372036854775808 = some 1 := by
    simp [big_Cmp.f, big_of.f, big_size_with.f, big_Cmp.j0]
  rw [e2]
  have e3 : wrap64 (wrap64 n) = n := by rw [wrap64_id n (by omega) h1, wrap64_id n (by omega) h1]
  by_cases h : n = 9223372036854775807
  · simp [h, wrap64]
  · have : n < 9223372036854775807 := by omega
    simp [h, this, wrap64_id n (by omega) h1]
set_option maxHeartbeats 1600000 in
set_option maxRecDepth 100000 in
theorem div64.calls (a0 a1 a2 : Int) (r1 r2 : Int) (w : World) (h : (if a0 = 0 then (if 0 < a2 then (if 0 ≤ a1 then (if a1 < 18446744073709551616 then some (a1 / a2, a1 % a2) else none) else none) else none) else none) = some (r1, r2)) :
    Calls Tryz.prog 122 #[.int .u64 a0, .int .u64 a1, .int .u64 a2] w fun e w' => e = .returned (.tuple #[.int .u64 r1, .int .u64 r2]) ∧ Drawn0 w w' := by
  by_cases h0 : a0 = 0
  · rw [if_pos h0] at h
    by_cases h1 : 0 < a2
    · rw [if_pos h1] at h
      by_cases h2 : 0 ≤ a1
      · rw [if_pos h2] at h
        by_cases h3 : a1 < 18446744073709551616
        · rw [if_pos h3] at h
          simp only [Option.some.injEq, Prod.mk.injEq] at h
          obtain ⟨rfl, rfl⟩ := h
          subst h0
          have b1 : (a2 == 0) = false := beq_eq_false_iff_ne.2 (by omega)
          have b2 : decide (a2 ≤ 0) = false := decide_eq_false (by omega)
          have b3 : ¬ a2 = 0 := by omega
          have hq : Int.tdiv a1 a2 = a1 / a2 := Int.tdiv_eq_ediv_of_nonneg h2
          have hm : Int.tmod a1 a2 = a1 % a2 := Int.tmod_eq_emod_of_nonneg h2
          have q0 : 0 ≤ a1 / a2 := Int.ediv_nonneg h2 (by omega)
          have q1 : a1 / a2 ≤ a1 := Int.ediv_le_self _ h2
          have m0 : 0 ≤ a1 % a2 := Int.emod_nonneg _ b3
          have m1 : a1 % a2 ≤ a1 := by have := Int.mul_ediv_add_emod a1 a2; have : 0 ≤ a2 * (a1 / a2) := Int.mul_nonneg (by omega) q0; omega
          have wq : IntKind.u64.wrap (a1 / a2) = a1 / a2 := by
            simp [IntKind.wrap, IntKind.bits, IntKind.signed]; omega
          clear h1 h2 h3
          go_enter Tryz.func122, Tryz.ntmps122
          go_wp2
          repeat (go_quiet (fail); try go_wp2)
          go_ret2
          exact ⟨by first | rfl | (simp; done) | trace_state, by repeat (first | exact Drawn0.refl _ | apply Drawn0.step)⟩
        · rw [if_neg h3] at h; cases h
      · rw [if_neg h2] at h; cases h
    · rw [if_neg h1] at h; cases h
  · rw [if_neg h0] at h; cases h
theorem new_at (X : World) (o : Obj) (b : Nat) (hb : b = X.heap.size) : (X.alloc o).heap[b]? = some o := by
  subst hb
  exact blk_new X o
theorem name_world {P : Program} {c : Code} {Q : Exit → Act → World → Prop} {a : Act} {W : World} (S : World → Prop) (h : S W) (k : ∀ w', S w' → Code.wp P c Q a w') : Code.wp P c Q a W := k W h

theorem div64p.calls (p c : Int) (q r : Int) (w : World) (hp : 0 ≤ p) (hp1 : p < 18446744073709551616) (hc : 1 ≤ c) (hq : q = p / c) (hr : r = p % c) :
    Calls Tryz.prog 122 #[.int .u64 0, .int .u64 p, .int .u64 c] w fun e w' => e = .returned (.tuple #[.int .u64 q, .int .u64 r]) ∧ Drawn0 w w' :=
  div64.calls 0 p c q r w (by rw [if_pos rfl, if_pos (by omega), if_pos hp, if_pos hp1, hq, hr])

end Go.Proofs.YtpkjdjhojbadhaaGreatDoor.Hp

set_option linter.unusedVariables false
set_option linter.unusedSimpArgs false
namespace Go.Proofs.YtpkjdjhojbadhaaGreatDoor.Hp
open Go.RowKit Go.Proofs.YtpkjdjhojbadhaaGreatDoorW.PrintWords Go.Proofs.YtpkjdjhojbadhaaGreatDoorW.PrintLast Go.Proofs.YtpkjdjhojbadhaaGreatDoorW.PrintMore
attribute [local go_sem] max2_int min2_int max_two min_two max_three min_three max_four min_four
set_option maxHeartbeats 1600000 in
set_option maxRecDepth 100000 in
theorem bigdiv.calls (p c : Int) (q r : Int) (w : World) (hp : 0 ≤ p) (hp1 : p < 18446744073709551616) (hc : 1 ≤ c) (hq : q = p / c) (hr : r = p % c) :
    Calls Tryz.prog 76 #[.agg #[.bool false, .int .u64 0, .int .u64 p], .int .u64 c] w fun e w' => e = .returned (.tuple #[.agg #[.bool false, .int .u64 0, .int .u64 q], .int .u64 r, .int .i64 0]) ∧ Below w.heap.size w w' := by
  have S := Aside0.mk (show big_size_with.f 0 q false = some (false, 0, q) by simp [big_size_with.f])
  have b4 : ¬ c = 0 := by omega
  have b5 : (c == 0) = false := beq_eq_false_iff_ne.2 b4
  have b6 : Int.tdiv 0 c = 0 := by simp
  have D := Aside0.mk (fun W => div64p.calls p c q r W hp hp1 hc hq hr)
  clear hp hp1 hc hq hr
  go_enter Tryz.func76, Tryz.ntmps76
  go_wp2_with fail
  repeat (go_quiet (fail); try go_wp2_with fail)
  refine (D.out _).mono ?_
  rintro ev w2 ⟨rfl, ⟨nq, rfl⟩⟩
  go_wp2_with fail
  refine (big_size_with.calls 0 q false false 0 q _ S.out).mono ?_
  rintro ev w4 ⟨rfl, hb4⟩
  have n0_ := Aside0.mk (blk_below (g := w.heap.size) (o := .cells #[.bool false, .int .u64 0, .int .u64 p] 122 (0, 0)) (by (repeat (first | (with_reducible refine new_at _ _ _ ?hn; (case hn => first | rfl | (simp; done))) | with_reducible refine blk_alloc ?_ _ | with_reducible refine blk_drewN ?_ _ | with_reducible refine blk_drew ?_ | (with_reducible refine blk_far ?_ ?hb _; (case hb => first | omega | (simp; done) | (simp; omega)))))) hb4)
  have n1_ := Aside0.mk (blk_below (g := w.heap.size + 1) (o := .cells #[.bool false, .int .u64 0, .int .u64 0] 122 (0, 0)) (by (repeat (first | (with_reducible refine new_at _ _ _ ?hn; (case hn => first | rfl | (simp; done))) | with_reducible refine blk_alloc ?_ _ | with_reducible refine blk_drewN ?_ _ | with_reducible refine blk_drew ?_ | (with_reducible refine blk_far ?_ ?hb _; (case hb => first | omega | (simp; done) | (simp; omega)))))) hb4)
  have nb_ : Aside0 (Below w.heap.size w w4) := ⟨below_step (by (repeat (first | with_reducible exact HB.out | with_reducible exact Below.refl _ _ | with_reducible apply below_alloc | with_reducible apply pw_below_drewN | with_reducible apply below_drew1 | (with_reducible refine below_set ?_ ?hy; (case hy => omega))))) hb4⟩
  clear hb4
  have B0 := n0_
  have B0c0 : w4.cell? ⟨w.heap.size, 0, none⟩ = some (.bool false) := (blk_cell B0.out 0).trans rfl
  have B0f0 : w4.frozen? ⟨w.heap.size, 0, none⟩ = false := blk_frozen B0.out 0
  have B0c1 : w4.cell? ⟨w.heap.size, 1, none⟩ = some (.int .u64 0) := (blk_cell B0.out 1).trans rfl
  have B0f1 : w4.frozen? ⟨w.heap.size, 1, none⟩ = false := blk_frozen B0.out 1
  have B0c2 : w4.cell? ⟨w.heap.size, 2, none⟩ = some (.int .u64 p) := (blk_cell B0.out 2).trans rfl
  have B0f2 : w4.frozen? ⟨w.heap.size, 2, none⟩ = false := blk_frozen B0.out 2
  have B0l := blk_lt B0.out
  have B1 := n1_
  have B1c0 : w4.cell? ⟨w.heap.size + 1, 0, none⟩ = some (.bool false) := (blk_cell B1.out 0).trans rfl
  have B1f0 : w4.frozen? ⟨w.heap.size + 1, 0, none⟩ = false := blk_frozen B1.out 0
  have B1c1 : w4.cell? ⟨w.heap.size + 1, 1, none⟩ = some (.int .u64 0) := (blk_cell B1.out 1).trans rfl
  have B1f1 : w4.frozen? ⟨w.heap.size + 1, 1, none⟩ = false := blk_frozen B1.out 1
  have B1c2 : w4.cell? ⟨w.heap.size + 1, 2, none⟩ = some (.int .u64 0) := (blk_cell B1.out 2).trans rfl
  have B1f2 : w4.frozen? ⟨w.heap.size + 1, 2, none⟩ = false := blk_frozen B1.out 2
  have B1l := blk_lt B1.out
  have HB := nb_
  have HBs : w.heap.size ≤ w4.heap.size := HB.out.size
  clear nb_ n0_ n1_
  go_wp2_with fail
  refine bodyPost_ret (results_ctt rfl _ _ (w.heap.size + 1) 122 #[.bool false, .int .u64 0, .int .u64 q] (0, 0) _ rfl (by (repeat (first | with_reducible refine blk_alloc ?_ _ | with_reducible refine blk_drewN ?_ _ | with_reducible refine blk_drew ?_ | (with_reducible refine blk_far ?_ ?hb _; (case hb => first | omega | (simp; done) | (simp; omega))))); refine blk_put (cs := #[.bool false, .int .u64 0, .int .u64 0]) (cs' := #[.bool false, .int .u64 0, .int .u64 q]) ?_ 2 (.int .u64 q) rfl; (repeat (first | with_reducible refine blk_alloc ?_ _ | with_reducible refine blk_drewN ?_ _ | with_reducible refine blk_drew ?_ | (with_reducible refine blk_far ?_ ?hb _; (case hb => first | omega | (simp; done) | (simp; omega))))); refine blk_put (cs := #[.bool false, .int .u64 0, .int .u64 0]) (cs' := #[.bool false, .int .u64 0, .int .u64 0]) ?_ 1 (.int .u64 0) rfl; (repeat (first | with_reducible refine blk_alloc ?_ _ | with_reducible refine blk_drewN ?_ _ | with_reducible refine blk_drew ?_ | (with_reducible refine blk_far ?_ ?hb _; (case hb => first | omega | (simp; done) | (simp; omega))))); refine blk_put (cs := #[.bool false, .int .u64 0, .int .u64 0]) (cs' := #[.bool false, .int .u64 0, .int .u64 0]) ?_ 0 (.bool false) rfl; (repeat (first | with_reducible exact B1.out | (with_reducible refine new_at _ _ _ ?hn; (case hn => first | rfl | (simp; done))) | with_reducible refine blk_alloc ?_ _ | with_reducible refine blk_drewN ?_ _ | with_reducible refine blk_drew ?_ | (with_reducible refine blk_far ?_ ?hb _; (case hb => first | omega | (simp; done) | (simp; omega)))))) Tryz.underlying122 rfl (by kernel_rfl)) rfl ?_
  exact ⟨rfl, (by (repeat (first | with_reducible exact HB.out | with_reducible exact Below.refl _ _ | with_reducible apply below_alloc | with_reducible apply pw_below_drewN | with_reducible apply below_drew1 | (with_reducible refine below_set ?_ ?hy; (case hy => omega)))))⟩

end Go.Proofs.YtpkjdjhojbadhaaGreatDoor.Hp

set_option linter.unusedVariables false
set_option linter.unusedSimpArgs false
namespace Go.Proofs.YtpkjdjhojbadhaaGreatDoor.Hp
open Go.RowKit Go.Proofs.YtpkjdjhojbadhaaGreatDoorW.PrintWords Go.Proofs.YtpkjdjhojbadhaaGreatDoorW.PrintLast Go.Proofs.YtpkjdjhojbadhaaGreatDoorW.PrintMore
attribute [local go_sem] max2_int min2_int max_two min_two max_three min_three max_four min_four
set_option maxHeartbeats 1600000 in
set_option maxRecDepth 100000 in
theorem part.calls (a b c q : Int) (w : World) (ha : 0 ≤ a) (hb : 0 ≤ b) (hc : 1 ≤ c) (h1 : a < 9223372036854775808) (h2 : b < 9223372036854775808) (h3 : c < 9223372036854775808) (h : a * b < 9223372036854775808) (hq : q = a * b / c) :
    Calls Tryz.prog 33 #[.agg #[.func (.func 32) #[] #[]], .int .i64 a, .int .i64 b, .int .i64 c] w fun e w' => e = .returned (.tuple #[.int .i64 q, .int .i64 0]) ∧ Below w.heap.size w w' := by
  have hmf : ∀ (fn : Fn) (first cap : Array Value) (w : World), (Instr.makeFunc fn first cap).run Tryz.prog w = .ok (.func fn first cap) w := fun _ _ _ _ => rfl
  have n0 : 0 ≤ a * b := Int.mul_nonneg ha hb
  have q0 : 0 ≤ a * b / c := Int.ediv_nonneg n0 (by omega)
  have q1 : a * b / c ≤ a * b := Int.ediv_le_self _ n0
  have M := Aside0.mk (mul_pos a b ha hb h1 h2 h)
  have b3 : IntKind.u64.wrap c = c := u64_id c (by omega) (by omega)
  obtain ⟨r, hr⟩ : ∃ r, r = a * b % c := ⟨_, rfl⟩
  have D := Aside0.mk (fun W => bigdiv.calls (a * b) c q r W n0 (by omega) hc hq hr)
  rw [← hq] at q0 q1
  clear hq hr
  have I := Aside0.mk (int_pos q q0 (by omega))
  have O := Aside0.mk (of_pos q q0 (by omega))
  have b2 : ¬ c < 1 := by omega
  generalize a * b = p at *
  clear ha hb hc h1 h2 h3 h n0 q0 q1
  go_enter Tryz.func33, Tryz.ntmps33
  go_wp2_with fail
  refine (big_Mul.calls a b false 0 p _ M.out).mono ?_
  rintro ev w1 ⟨rfl, hb1⟩
  have n0_ := Aside0.mk (blk_below (g := w.heap.size) (o := .cells #[.func (.func 32) #[] #[]] 79 (0, 0)) (by (repeat (first | (with_reducible refine new_at _ _ _ ?hn; (case hn => first | rfl | (simp; done))) | with_reducible refine blk_alloc ?_ _ | with_reducible refine blk_drewN ?_ _ | with_reducible refine blk_drew ?_ | (with_reducible refine blk_far ?_ ?hb _; (case hb => first | omega | (simp; done) | (simp; omega)))))) hb1)
  have nb_ : Aside0 (Below w.heap.size w w1) := ⟨below_step (by (repeat (first | with_reducible exact HB.out | with_reducible exact Below.refl _ _ | with_reducible apply below_alloc | with_reducible apply pw_below_drewN | with_reducible apply below_drew1 | (with_reducible refine below_set ?_ ?hy; (case hy => omega))))) hb1⟩
  clear hb1
  have B0 := n0_
  have B0c0 : w1.cell? ⟨w.heap.size, 0, none⟩ = some (.func (.func 32) #[] #[]) := (blk_cell B0.out 0).trans rfl
  have B0f0 : w1.frozen? ⟨w.heap.size, 0, none⟩ = false := blk_frozen B0.out 0
  have B0l := blk_lt B0.out
  have HB := nb_
  have HBs : w.heap.size ≤ w1.heap.size := HB.out.size
  clear nb_ n0_
  go_wp2_with fail
  refine (D.out _).mono ?_
  rintro ev w2 ⟨rfl, hb2⟩
  have n0_ := Aside0.mk (blk_below (g := w.heap.size) (o := .cells #[.func (.func 32) #[] #[]] 79 (0, 0)) (by (repeat (first | with_reducible exact B0.out | (with_reducible refine new_at _ _ _ ?hn; (case hn => first | rfl | (simp; done))) | with_reducible refine blk_alloc ?_ _ | with_reducible refine blk_drewN ?_ _ | with_reducible refine blk_drew ?_ | (with_reducible refine blk_far ?_ ?hb _; (case hb => first | omega | (simp; done) | (simp; omega)))))) hb2)
  have nb_ : Aside0 (Below w.heap.size w w2) := ⟨below_step (by (repeat (first | with_reducible exact HB.out | with_reducible exact Below.refl _ _ | with_reducible apply below_alloc | with_reducible apply pw_below_drewN | with_reducible apply below_drew1 | (with_reducible refine below_set ?_ ?hy; (case hy => omega))))) hb2⟩
  clear B0c0 B0f0 B0l B0 HB HBs
  clear hb2
  have B0 := n0_
  have B0c0 : w2.cell? ⟨w.heap.size, 0, none⟩ = some (.func (.func 32) #[] #[]) := (blk_cell B0.out 0).trans rfl
  have B0f0 : w2.frozen? ⟨w.heap.size, 0, none⟩ = false := blk_frozen B0.out 0
  have B0l := blk_lt B0.out
  have HB := nb_
  have HBs : w.heap.size ≤ w2.heap.size := HB.out.size
  clear nb_ n0_
  go_wp2_with (first | (go_at_call 32; go_in) | fail)
  refine (big_Int.calls 30 false 0 q q _ I.out).mono ?_
  rintro ev w3 ⟨rfl, hb3⟩
  have n0_ := Aside0.mk (blk_below (g := w2.heap.size) (o := .cells #[.bool false, .int .u64 0, .int .u64 q] 122 (0, 0)) (by (repeat (first | (with_reducible refine new_at _ _ _ ?hn; (case hn => first | rfl | (simp; done))) | with_reducible refine blk_alloc ?_ _ | with_reducible refine blk_drewN ?_ _ | with_reducible refine blk_drew ?_ | (with_reducible refine blk_far ?_ ?hb _; (case hb => first | omega | (simp; done) | (simp; omega)))))) hb3)
  have nb_ : Aside0 (Below w.heap.size w w3) := ⟨below_step (by (repeat (first | with_reducible exact HB.out | with_reducible exact Below.refl _ _ | with_reducible apply below_alloc | with_reducible apply pw_below_drewN | with_reducible apply below_drew1 | (with_reducible refine below_set ?_ ?hy; (case hy => omega))))) hb3⟩
  clear B0c0 B0f0 B0l B0 HB HBs
  clear hb3
  have B2 := n0_
  have B2c0 : w3.cell? ⟨w2.heap.size, 0, none⟩ = some (.bool false) := (blk_cell B2.out 0).trans rfl
  have B2f0 : w3.frozen? ⟨w2.heap.size, 0, none⟩ = false := blk_frozen B2.out 0
  have B2c1 : w3.cell? ⟨w2.heap.size, 1, none⟩ = some (.int .u64 0) := (blk_cell B2.out 1).trans rfl
  have B2f1 : w3.frozen? ⟨w2.heap.size, 1, none⟩ = false := blk_frozen B2.out 1
  have B2c2 : w3.cell? ⟨w2.heap.size, 2, none⟩ = some (.int .u64 q) := (blk_cell B2.out 2).trans rfl
  have B2f2 : w3.frozen? ⟨w2.heap.size, 2, none⟩ = false := blk_frozen B2.out 2
  have B2l := blk_lt B2.out
  have HB := nb_
  have HBs : w.heap.size ≤ w3.heap.size := HB.out.size
  clear nb_ n0_
  go_wp2_with fail
  go_cut [52] (fun v wx => v = .bool false ∧ Aside0 (Below w.heap.size w wx))
  case first =>
    go_region_held3 (fun w' => w'.cell? ⟨w2.heap.size, 0, none⟩ = some (.bool false) ∧ w'.cell? ⟨w2.heap.size, 1, none⟩ = some (.int .u64 0) ∧ w'.cell? ⟨w2.heap.size, 2, none⟩ = some (.int .u64 q) ∧ Below w.heap.size w w') (first | exact ⟨B2c0, B2c1, B2c2, below_drew1 HB.out⟩ | exact ⟨(Below.cell (w := w3.drew) (B := w3.drew.heap.size) (by assumption) (p := ⟨w2.heap.size, 0, none⟩) B2l).trans B2c0, (Below.cell (w := w3.drew) (B := w3.drew.heap.size) (by assumption) (p := ⟨w2.heap.size, 1, none⟩) B2l).trans B2c1, (Below.cell (w := w3.drew) (B := w3.drew.heap.size) (by assumption) (p := ⟨w2.heap.size, 2, none⟩) B2l).trans B2c2, below_step (below_drew1 HB.out) (by assumption)⟩) (first | (go_at_call 79; refine (big_Of.calls q false 0 q _ O.out).mono ?_; rintro ev w4 ⟨rfl, hb4⟩))
    go_wp2
    go_meet
    exact ⟨rfl, ⟨below_step (below_drew1 HB.out) hb4⟩⟩
  case rest =>
    obtain ⟨rfl, HB⟩ := hcut
    go_wp2
    go_ret2
    exact ⟨rfl, HB.out⟩
set_option maxHeartbeats 1600000 in
set_option maxRecDepth 100000 in
theorem floor.calls (a b c q : Int) (w : World) (ha : 0 ≤ a) (hb : 0 ≤ b) (hc : 1 ≤ c) (h1 : a < 9223372036854775808) (h2 : b < 9223372036854775808) (h3 : c < 9223372036854775808) (h : a * b < 9223372036854775808) (hq : q = a * b / c) :
    Calls Tryz.prog 12 #[.int .i64 a, .int .i64 b, .int .i64 c] w fun e w' => e = .returned (.tuple #[.int .i64 q, .int .i64 0]) ∧ Below w.heap.size w w' := by
  have D := Aside0.mk (fun W => part.calls a b c q W ha hb hc h1 h2 h3 h hq)
  clear ha hb hc h1 h2 h3 h hq
  go_enter Tryz.func12, Tryz.ntmps12
  go_wp2_with fail
  refine (D.out _).mono ?_
  rintro ev w1 ⟨rfl, hb1⟩
  go_wp2
  go_ret2
  exact ⟨rfl, hb1⟩

end Go.Proofs.YtpkjdjhojbadhaaGreatDoor.Hp
