/- rate.Of: two windows a turn. -/
import Derived.Test.YtpkjdjhojbadhaaGreatDoorTop8
import Derived.WalkMore
set_option linter.unusedVariables false
set_option linter.unusedSimpArgs false
namespace Go.Proofs.YtpkjdjhojbadhaaGreatDoor.Hp
open Go.RowKit Go.Proofs.YtpkjdjhojbadhaaGreatDoorW.PrintWords Go.Proofs.YtpkjdjhojbadhaaGreatDoorW.PrintLast Go.Proofs.YtpkjdjhojbadhaaGreatDoorW.PrintMore
attribute [local go_sem] max2_int min2_int max_two min_two max_three min_three max_four min_four
set_option maxHeartbeats 1600000 in
set_option maxRecDepth 100000 in
theorem rate0.calls (x s q : Int) (w : World) (h0 : 0 ≤ x) (h1 : x ≤ 68719476736) (h2 : 1 ≤ s) (h3 : s ≤ 65535) (h4 : 2 * x * (s * 1000000) < 9223372036854775808) (hq : q = 2 * x * (s * 1000000) / 6553600000) (hq1 : 1 ≤ q) :
    Calls Tryz.prog 51 #[.int .i64 (x), .int .i64 (s), .agg #[.bool false, .int .i64 0, .int .i64 0], .bool true] w fun e w' => e = .returned (.int .i64 (q)) ∧ Below w.heap.size w w' := by
  have hmf : ∀ (fn : Fn) (first cap : Array Value) (w : World), (Instr.makeFunc fn first cap).run Tryz.prog w = .ok (.func fn first cap) w := fun _ _ _ _ => rfl
  have T1 := Aside0.mk (fun W => take96.calls 0 68719476736 x W h0 h1)
  have T2 := Aside0.mk (fun W => take96.calls 1 65535 s W h2 h3)
  have T3 := Aside0.mk (fun W => time0.calls W)
  have F := Aside0.mk (fun W => floor.calls (2 * x) (s * 1000000) 6553600000 q W (by omega) (by omega) (by omega) (by omega) (by omega) (by omega) h4 hq)
  have e1 : wrap64 (x * 2) = 2 * x := by rw [Int.mul_comm]; exact wrap64_id _ (by omega) (by omega)
  have e2 : wrap64 (s * 1000000) = s * 1000000 := wrap64_id _ (by omega) (by omega)
  have e3 : IntKind.i64.wrap (x * 2) = 2 * x := by rw [i64_w]; exact e1
  have e4 : IntKind.i64.wrap (s * 1000000) = s * 1000000 := by rw [i64_w]; exact e2
  have e5 : IntKind.i64.wrap 65536 = 65536 := by decide
  have e6 : IntKind.i64.wrap 6553600000 = 6553600000 := by decide
  have e7 : IntKind.i64.wrap (65536 * 100000) = 6553600000 := by decide
  have c0 : decide (q < 1) = false := decide_eq_false (by omega)
  clear h4 hq hq1
  go_enter Tryz.func51, Tryz.ntmps51
  go_wp2_with (first | (go_at_call 97; go_in) | fail)
  refine name_world (fun w_ => (w_.heap[w.heap.size]? = some (.cells #[.bool false, .int .i64 0, .int .i64 0] 28 (0, 0))) ∧ Below w.heap.size w w_) ⟨by (repeat (first | (with_reducible refine new_at _ _ _ ?hn; (case hn => first | rfl | (simp; done))) | with_reducible refine blk_alloc ?_ _ | with_reducible refine blk_drewN ?_ _ | with_reducible refine blk_drew ?_ | (with_reducible refine blk_far ?_ ?hb _; (case hb => first | omega | (simp; done) | (simp; omega))))), by (repeat (first | with_reducible exact HB.out | with_reducible exact Below.refl _ _ | with_reducible apply below_alloc | with_reducible apply pw_below_drewN | with_reducible apply below_drew1 | (with_reducible refine below_set ?_ ?hy; (case hy => omega))))⟩ ?_
  rintro w1 ⟨n0_, nb_⟩
  replace n0_ := Aside0.mk n0_
  replace nb_ := Aside0.mk nb_
  have B0 := n0_
  have B0c0 : w1.cell? ⟨w.heap.size, 0, none⟩ = some (.bool false) := (blk_cell B0.out 0).trans rfl
  have B0f0 : w1.frozen? ⟨w.heap.size, 0, none⟩ = false := blk_frozen B0.out 0
  have B0c1 : w1.cell? ⟨w.heap.size, 1, none⟩ = some (.int .i64 0) := (blk_cell B0.out 1).trans rfl
  have B0f1 : w1.frozen? ⟨w.heap.size, 1, none⟩ = false := blk_frozen B0.out 1
  have B0c2 : w1.cell? ⟨w.heap.size, 2, none⟩ = some (.int .i64 0) := (blk_cell B0.out 2).trans rfl
  have B0f2 : w1.frozen? ⟨w.heap.size, 2, none⟩ = false := blk_frozen B0.out 2
  have B0l := blk_lt B0.out
  have HB := nb_
  have HBs : w.heap.size ≤ w1.heap.size := HB.out.size
  clear nb_ n0_
  go_region_held3 (fun w' => w'.cell? ⟨w.heap.size, 0, none⟩ = some (.bool false) ∧ w'.cell? ⟨w.heap.size, 1, none⟩ = some (.int .i64 0) ∧ w'.cell? ⟨w.heap.size, 2, none⟩ = some (.int .i64 0) ∧ Below w.heap.size w w') (first | assumption | exact ⟨B0c0, B0c1, B0c2, below_drew1 HB.out⟩ | exact keep3_0 (by assumption) (by assumption)) (first | (go_at_call 96; (with_reducible refine (T1.out _).mono ?_); rintro ev w2 ⟨rfl, hb2⟩) | (go_at_call 96; (with_reducible refine (T2.out _).mono ?_); rintro ev w3 ⟨rfl, hb3⟩) | (go_at_call 98; (with_reducible refine (T3.out _).mono ?_); rintro ev w4 ⟨rfl, hb4⟩) | (go_at_call 12; (with_reducible refine (F.out _).mono ?_); rintro ev w5 ⟨rfl, hb5⟩))
  have hS : w5.cell? ⟨w.heap.size, 0, none⟩ = some (.bool false) ∧ w5.cell? ⟨w.heap.size, 1, none⟩ = some (.int .i64 0) ∧ w5.cell? ⟨w.heap.size, 2, none⟩ = some (.int .i64 0) ∧ Below w.heap.size w w5 := by assumption
  have hB := Aside0.mk hS.2.2.2
  clear hS
  go_wp2
  all_goals first | (exfalso; have h9 := of_decide_eq_false c0; omega) | (go_ret; exact ⟨by simp, hB.out⟩)
set_option maxHeartbeats 1600000 in
set_option maxRecDepth 100000 in
theorem rate1.calls (f : Int) (x s q : Int) (w : World) (h0 : 0 ≤ x) (h1 : x ≤ 68719476736) (h2 : 1 ≤ s) (h3 : s ≤ 65535) (h4 : 2 * x * (s * 1000000) < 9223372036854775808) (hq : q = 2 * x * (s * 1000000) / 6553600000) (hq1 : 1 ≤ q) (h6 : 0 ≤ f) (h7 : f ≤ 4294967296) :
    Calls Tryz.prog 51 #[.int .i64 (x), .int .i64 (s), .agg #[.bool true, .int .i64 800000, .int .i64 (f)], .bool true] w fun e w' => e = .returned (.int .i64 (q)) ∧ Below w.heap.size w w' := by
  have hmf : ∀ (fn : Fn) (first cap : Array Value) (w : World), (Instr.makeFunc fn first cap).run Tryz.prog w = .ok (.func fn first cap) w := fun _ _ _ _ => rfl
  have T1 := Aside0.mk (fun W => take96.calls 0 68719476736 x W h0 h1)
  have T2 := Aside0.mk (fun W => take96.calls 1 65535 s W h2 h3)
  have T3 := Aside0.mk (fun W => time1.calls f W h6 h7)
  have F := Aside0.mk (fun W => floor.calls (2 * x) (s * 1000000) 6553600000 q W (by omega) (by omega) (by omega) (by omega) (by omega) (by omega) h4 hq)
  have e1 : wrap64 (x * 2) = 2 * x := by rw [Int.mul_comm]; exact wrap64_id _ (by omega) (by omega)
  have e2 : wrap64 (s * 1000000) = s * 1000000 := wrap64_id _ (by omega) (by omega)
  have e3 : IntKind.i64.wrap (x * 2) = 2 * x := by rw [i64_w]; exact e1
  have e4 : IntKind.i64.wrap (s * 1000000) = s * 1000000 := by rw [i64_w]; exact e2
  have e5 : IntKind.i64.wrap 65536 = 65536 := by decide
  have e6 : IntKind.i64.wrap 6553600000 = 6553600000 := by decide
  have e7 : IntKind.i64.wrap (65536 * 100000) = 6553600000 := by decide
  have c0 : decide (q < 1) = false := decide_eq_false (by omega)
  clear h4 hq hq1
  go_enter Tryz.func51, Tryz.ntmps51
  go_wp2_with (first | (go_at_call 97; go_in) | fail)
  refine name_world (fun w_ => (w_.heap[w.heap.size]? = some (.cells #[.bool true, .int .i64 800000, .int .i64 f] 28 (0, 0))) ∧ Below w.heap.size w w_) ⟨by (repeat (first | (with_reducible refine new_at _ _ _ ?hn; (case hn => first | rfl | (simp; done))) | with_reducible refine blk_alloc ?_ _ | with_reducible refine blk_drewN ?_ _ | with_reducible refine blk_drew ?_ | (with_reducible refine blk_far ?_ ?hb _; (case hb => first | omega | (simp; done) | (simp; omega))))), by (repeat (first | with_reducible exact HB.out | with_reducible exact Below.refl _ _ | with_reducible apply below_alloc | with_reducible apply pw_below_drewN | with_reducible apply below_drew1 | (with_reducible refine below_set ?_ ?hy; (case hy => omega))))⟩ ?_
  rintro w1 ⟨n0_, nb_⟩
  replace n0_ := Aside0.mk n0_
  replace nb_ := Aside0.mk nb_
  have B0 := n0_
  have B0c0 : w1.cell? ⟨w.heap.size, 0, none⟩ = some (.bool true) := (blk_cell B0.out 0).trans rfl
  have B0f0 : w1.frozen? ⟨w.heap.size, 0, none⟩ = false := blk_frozen B0.out 0
  have B0c1 : w1.cell? ⟨w.heap.size, 1, none⟩ = some (.int .i64 800000) := (blk_cell B0.out 1).trans rfl
  have B0f1 : w1.frozen? ⟨w.heap.size, 1, none⟩ = false := blk_frozen B0.out 1
  have B0c2 : w1.cell? ⟨w.heap.size, 2, none⟩ = some (.int .i64 f) := (blk_cell B0.out 2).trans rfl
  have B0f2 : w1.frozen? ⟨w.heap.size, 2, none⟩ = false := blk_frozen B0.out 2
  have B0l := blk_lt B0.out
  have HB := nb_
  have HBs : w.heap.size ≤ w1.heap.size := HB.out.size
  clear nb_ n0_
  go_region_held3 (fun w' => w'.cell? ⟨w.heap.size, 0, none⟩ = some (.bool true) ∧ w'.cell? ⟨w.heap.size, 1, none⟩ = some (.int .i64 800000) ∧ w'.cell? ⟨w.heap.size, 2, none⟩ = some (.int .i64 f) ∧ Below w.heap.size w w') (first | assumption | exact ⟨B0c0, B0c1, B0c2, below_drew1 HB.out⟩ | exact keep3_0 (by assumption) (by assumption)) (first | (go_at_call 96; (with_reducible refine (T1.out _).mono ?_); rintro ev w2 ⟨rfl, hb2⟩) | (go_at_call 96; (with_reducible refine (T2.out _).mono ?_); rintro ev w3 ⟨rfl, hb3⟩) | (go_at_call 98; (with_reducible refine (T3.out _).mono ?_); rintro ev w4 ⟨rfl, hb4⟩) | (go_at_call 12; (with_reducible refine (F.out _).mono ?_); rintro ev w5 ⟨rfl, hb5⟩))
  have hS : w5.cell? ⟨w.heap.size, 0, none⟩ = some (.bool true) ∧ w5.cell? ⟨w.heap.size, 1, none⟩ = some (.int .i64 800000) ∧ w5.cell? ⟨w.heap.size, 2, none⟩ = some (.int .i64 f) ∧ Below w.heap.size w w5 := by assumption
  have hB := Aside0.mk hS.2.2.2
  clear hS
  go_wp2
  all_goals first | (exfalso; have h9 := of_decide_eq_false c0; omega) | (go_ret; exact ⟨by simp, hB.out⟩)

end Go.Proofs.YtpkjdjhojbadhaaGreatDoor.Hp
