/- More small functions, each at the arguments that matter. -/
import Derived.Test.YtpkjdjhojbadhaaGreatDoorTop5
import Derived.WalkMore
set_option linter.unusedVariables false
set_option linter.unusedSimpArgs false
namespace Go.Proofs.YtpkjdjhojbadhaaGreatDoor.Hp
open Go.RowKit Go.Proofs.YtpkjdjhojbadhaaGreatDoorW.PrintWords Go.Proofs.YtpkjdjhojbadhaaGreatDoorW.PrintLast Go.Proofs.YtpkjdjhojbadhaaGreatDoorW.PrintMore
attribute [local go_sem] max2_int min2_int max_two min_two max_three min_three max_four min_four
set_option maxHeartbeats 1600000 in
set_option maxRecDepth 100000 in
theorem next.calls (f : Int) (w : World) (h0 : 0 ≤ f) (h1 : f ≤ 4294967296) :
    Calls Tryz.prog 136 #[.agg #[.bool true, .int .i64 800000, .int .i64 (f)], .int .i64 100000] w fun e w' => e = .returned (.agg #[.bool true, .int .i64 800000, .int .i64 (f - f / 4)]) ∧ Below w.heap.size w w' := by
  have e2 : wrap64 (0 - f / 4) = -(f / 4) := by rw [Int.zero_sub]; exact wrap64_id _ (by omega) (by omega)
  have e3 : wrap64 (f + -(f / 4)) = f - f / 4 := wrap64_id _ (by omega) (by omega)
  have e5 : wrap64 (-(f / 4)) = -(f / 4) := wrap64_id _ (by omega) (by omega)
  have M := Aside0.mk (fun W => mean.calls true 800000 f W (by omega) (by omega))
  have F := Aside0.mk (fun W => far.calls true 800000 f W (by omega) (by omega))
  go_enter Tryz.func136, Tryz.ntmps136
  go_wp2_with fail
  refine name_world (fun w_ => (w_.heap[w.heap.size]? = some (.cells #[.bool true, .int .i64 800000, .int .i64 f] 174 (0, 0))) ∧ (w_.heap[w.heap.size + 1]? = some (.cells #[.bool false, .int .i64 0, .int .i64 0] 174 (0, 0))) ∧ Below w.heap.size w w_) ⟨by (repeat (first | (with_reducible refine new_at _ _ _ ?hn; (case hn => first | rfl | (simp; done))) | with_reducible refine blk_alloc ?_ _ | with_reducible refine blk_drewN ?_ _ | with_reducible refine blk_drew ?_ | (with_reducible refine blk_far ?_ ?hb _; (case hb => first | omega | (simp; done) | (simp; omega))))), by (repeat (first | (with_reducible refine new_at _ _ _ ?hn; (case hn => first | rfl | (simp; done))) | with_reducible refine blk_alloc ?_ _ | with_reducible refine blk_drewN ?_ _ | with_reducible refine blk_drew ?_ | (with_reducible refine blk_far ?_ ?hb _; (case hb => first | omega | (simp; done) | (simp; omega))))), by (repeat (first | with_reducible exact HB.out | with_reducible exact Below.refl _ _ | with_reducible apply below_alloc | with_reducible apply pw_below_drewN | with_reducible apply below_drew1 | (with_reducible refine below_set ?_ ?hy; (case hy => omega))))⟩ ?_
  rintro w1 ⟨n0_, n1_, nb_⟩
  replace n0_ := Aside0.mk n0_
  replace n1_ := Aside0.mk n1_
  replace nb_ := Aside0.mk nb_
  have B0 := n0_
  have B0c0 : w1.cell? ⟨w.heap.size, 0, none⟩ = some (.bool true) := (blk_cell B0.out 0).trans rfl
  have B0f0 : w1.frozen? ⟨w.heap.size, 0, none⟩ = false := blk_frozen B0.out 0
  have B0c1 : w1.cell? ⟨w.heap.size, 1, none⟩ = some (.int .i64 800000) := (blk_cell B0.out 1).trans rfl
  have B0f1 : w1.frozen? ⟨w.heap.size, 1, none⟩ = false := blk_frozen B0.out 1
  have B0c2 : w1.cell? ⟨w.heap.size, 2, none⟩ = some (.int .i64 f) := (blk_cell B0.out 2).trans rfl
  have B0f2 : w1.frozen? ⟨w.heap.size, 2, none⟩ = false := blk_frozen B0.out 2
  have B0l := blk_lt B0.out
  have B1 := n1_
  have B1c0 : w1.cell? ⟨w.heap.size + 1, 0, none⟩ = some (.bool false) := (blk_cell B1.out 0).trans rfl
  have B1f0 : w1.frozen? ⟨w.heap.size + 1, 0, none⟩ = false := blk_frozen B1.out 0
  have B1c1 : w1.cell? ⟨w.heap.size + 1, 1, none⟩ = some (.int .i64 0) := (blk_cell B1.out 1).trans rfl
  have B1f1 : w1.frozen? ⟨w.heap.size + 1, 1, none⟩ = false := blk_frozen B1.out 1
  have B1c2 : w1.cell? ⟨w.heap.size + 1, 2, none⟩ = some (.int .i64 0) := (blk_cell B1.out 2).trans rfl
  have B1f2 : w1.frozen? ⟨w.heap.size + 1, 2, none⟩ = false := blk_frozen B1.out 2
  have B1l := blk_lt B1.out
  have HB := nb_
  have HBs : w.heap.size ≤ w1.heap.size := HB.out.size
  clear nb_ n0_ n1_
  go_region_held3 (fun w' => w'.cell? ⟨w.heap.size, 0, none⟩ = some (.bool true) ∧ w'.cell? ⟨w.heap.size, 1, none⟩ = some (.int .i64 800000) ∧ w'.cell? ⟨w.heap.size, 2, none⟩ = some (.int .i64 f) ∧ w'.heap[w.heap.size]? = some (.cells #[.bool true, .int .i64 800000, .int .i64 f] 174 (0, 0)) ∧ w'.heap[w.heap.size + 1]? = some (.cells #[.bool false, .int .i64 0, .int .i64 0] 174 (0, 0)) ∧ Below w.heap.size w w') (first | exact ⟨B0c0, B0c1, B0c2, B0.out, B1.out, below_drew1 HB.out⟩ | exact keep3_2 (by assumption) (by assumption)) (first | (go_at_call 118; refine (M.out _).mono ?_; rintro ev w2 ⟨rfl, hb2⟩) | (go_at_call 156; refine (F.out _).mono ?_; rintro ev w3 ⟨rfl, hb3⟩))
  obtain ⟨_, _, _, k0, k1, k2⟩ : w3.cell? ⟨w.heap.size, 0, none⟩ = some (.bool true) ∧ w3.cell? ⟨w.heap.size, 1, none⟩ = some (.int .i64 800000) ∧ w3.cell? ⟨w.heap.size, 2, none⟩ = some (.int .i64 f) ∧ w3.heap[w.heap.size]? = some (.cells #[.bool true, .int .i64 800000, .int .i64 f] 174 (0, 0)) ∧ w3.heap[w.heap.size + 1]? = some (.cells #[.bool false, .int .i64 0, .int .i64 0] 174 (0, 0)) ∧ Below w.heap.size w w3 := by assumption
  clear B0c0 B0f0 B0c1 B0f1 B0c2 B0f2 B0l B0
  clear B1c0 B1f0 B1c1 B1f1 B1c2 B1f2 B1l B1
  have B0 := Aside0.mk k0
  have B1 := Aside0.mk k1
  clear HB HBs
  have HB := Aside0.mk k2
  have HBs : w.heap.size ≤ w3.heap.size := HB.out.size
  clear k0 k1 k2 hb3
  have B0c0 : w3.cell? ⟨w.heap.size, 0, none⟩ = some (.bool true) := (blk_cell B0.out 0).trans rfl
  have B0f0 : w3.frozen? ⟨w.heap.size, 0, none⟩ = false := blk_frozen B0.out 0
  have B0c1 : w3.cell? ⟨w.heap.size, 1, none⟩ = some (.int .i64 800000) := (blk_cell B0.out 1).trans rfl
  have B0f1 : w3.frozen? ⟨w.heap.size, 1, none⟩ = false := blk_frozen B0.out 1
  have B0c2 : w3.cell? ⟨w.heap.size, 2, none⟩ = some (.int .i64 f) := (blk_cell B0.out 2).trans rfl
  have B0f2 : w3.frozen? ⟨w.heap.size, 2, none⟩ = false := blk_frozen B0.out 2
  have B0l := blk_lt B0.out
  have B1c0 : w3.cell? ⟨w.heap.size + 1, 0, none⟩ = some (.bool false) := (blk_cell B1.out 0).trans rfl
  have B1f0 : w3.frozen? ⟨w.heap.size + 1, 0, none⟩ = false := blk_frozen B1.out 0
  have B1c1 : w3.cell? ⟨w.heap.size + 1, 1, none⟩ = some (.int .i64 0) := (blk_cell B1.out 1).trans rfl
  have B1f1 : w3.frozen? ⟨w.heap.size + 1, 1, none⟩ = false := blk_frozen B1.out 1
  have B1c2 : w3.cell? ⟨w.heap.size + 1, 2, none⟩ = some (.int .i64 0) := (blk_cell B1.out 2).trans rfl
  have B1f2 : w3.frozen? ⟨w.heap.size + 1, 2, none⟩ = false := blk_frozen B1.out 2
  have B1l := blk_lt B1.out
  go_wp2
  refine bodyPost_ret (results_cell_row rfl _ _ (w.heap.size + 1) 174 #[.bool true, .int .i64 800000, .int .i64 (f - f / 4)] (0, 0) _ rfl (by (repeat (first | with_reducible refine blk_alloc ?_ _ | with_reducible refine blk_drewN ?_ _ | with_reducible refine blk_drew ?_ | (with_reducible refine blk_far ?_ ?hb _; (case hb => first | omega | (simp; done) | (simp; omega))))); refine blk_put (cs := #[.bool true, .int .i64 800000, .int .i64 0]) (cs' := #[.bool true, .int .i64 800000, .int .i64 (f - f / 4)]) ?_ 2 (.int .i64 (f - f / 4)) rfl; (repeat (first | with_reducible refine blk_alloc ?_ _ | with_reducible refine blk_drewN ?_ _ | with_reducible refine blk_drew ?_ | (with_reducible refine blk_far ?_ ?hb _; (case hb => first | omega | (simp; done) | (simp; omega))))); refine blk_put (cs := #[.bool true, .int .i64 0, .int .i64 0]) (cs' := #[.bool true, .int .i64 800000, .int .i64 0]) ?_ 1 (.int .i64 800000) rfl; (repeat (first | with_reducible refine blk_alloc ?_ _ | with_reducible refine blk_drewN ?_ _ | with_reducible refine blk_drew ?_ | (with_reducible refine blk_far ?_ ?hb _; (case hb => first | omega | (simp; done) | (simp; omega))))); refine blk_put (cs := #[.bool false, .int .i64 0, .int .i64 0]) (cs' := #[.bool true, .int .i64 0, .int .i64 0]) ?_ 0 (.bool true) rfl; (repeat (first | with_reducible exact B1.out | (with_reducible refine new_at _ _ _ ?hn; (case hn => first | rfl | (simp; done))) | with_reducible refine blk_alloc ?_ _ | with_reducible refine blk_drewN ?_ _ | with_reducible refine blk_drew ?_ | (with_reducible refine blk_far ?_ ?hb _; (case hb => first | omega | (simp; done) | (simp; omega)))))) Tryz.underlying174 rfl (by kernel_rfl)) rfl ⟨rfl, ?_⟩
  exact (by (repeat (first | with_reducible exact HB.out | with_reducible exact Below.refl _ _ | with_reducible apply below_alloc | with_reducible apply pw_below_drewN | with_reducible apply below_drew1 | (with_reducible refine below_set ?_ ?hy; (case hy => omega)))))
set_option maxHeartbeats 1600000 in
set_option maxRecDepth 100000 in
theorem sample1.calls (f : Int) (w : World) (h0 : 0 ≤ f) (h1 : f ≤ 4294967296) :
    Calls Tryz.prog 107 #[.agg #[.bool true, .int .i64 800000, .int .i64 (f)], .int .i64 100000] w fun e w' => e = .returned (.tuple #[.agg #[.bool true, .int .i64 800000, .int .i64 (f - f / 4)], .int .i64 0]) ∧ Below w.heap.size w w' := by
  have D := Aside0.mk (fun W => next.calls f W h0 h1)
  have c0 : decide (f ≥ 0) = true := decide_eq_true h0
  have c1 : decide (f ≤ 4294967296) = true := decide_eq_true h1
  go_enter Tryz.func107, Tryz.ntmps107
  go_wp2_with (first | (go_at_call 39; go_in) | fail)
  refine (D.out _).mono ?_
  rintro ev w1 ⟨rfl, hb1⟩
  have n0_ := Aside0.mk (blk_below (g := w.heap.size) (o := .cells #[.bool true, .int .i64 800000, .int .i64 f] 28 (0, 0)) (by (repeat (first | (with_reducible refine new_at _ _ _ ?hn; (case hn => first | rfl | (simp; done))) | with_reducible refine blk_alloc ?_ _ | with_reducible refine blk_drewN ?_ _ | with_reducible refine blk_drew ?_ | (with_reducible refine blk_far ?_ ?hb _; (case hb => first | omega | (simp; done) | (simp; omega)))))) hb1)
  have n1_ := Aside0.mk (blk_below (g := w.heap.size + 1) (o := .cells #[.bool false, .int .i64 0, .int .i64 0] 28 (0, 0)) (by (repeat (first | (with_reducible refine new_at _ _ _ ?hn; (case hn => first | rfl | (simp; done))) | with_reducible refine blk_alloc ?_ _ | with_reducible refine blk_drewN ?_ _ | with_reducible refine blk_drew ?_ | (with_reducible refine blk_far ?_ ?hb _; (case hb => first | omega | (simp; done) | (simp; omega)))))) hb1)
  have n2_ := Aside0.mk (blk_below (g := w.heap.size + 1 + 1) (o := .cells #[.bool true, .int .i64 800000, .int .i64 f] 174 (0, 0)) (by (repeat (first | (with_reducible refine new_at _ _ _ ?hn; (case hn => first | rfl | (simp; done))) | with_reducible refine blk_alloc ?_ _ | with_reducible refine blk_drewN ?_ _ | with_reducible refine blk_drew ?_ | (with_reducible refine blk_far ?_ ?hb _; (case hb => first | omega | (simp; done) | (simp; omega)))))) hb1)
  have nb_ : Aside0 (Below w.heap.size w w1) := ⟨below_step (by (repeat (first | with_reducible exact HB.out | with_reducible exact Below.refl _ _ | with_reducible apply below_alloc | with_reducible apply pw_below_drewN | with_reducible apply below_drew1 | (with_reducible refine below_set ?_ ?hy; (case hy => omega))))) hb1⟩
  clear hb1
  have B0 := n0_
  have B0c0 : w1.cell? ⟨w.heap.size, 0, none⟩ = some (.bool true) := (blk_cell B0.out 0).trans rfl
  have B0f0 : w1.frozen? ⟨w.heap.size, 0, none⟩ = false := blk_frozen B0.out 0
  have B0c1 : w1.cell? ⟨w.heap.size, 1, none⟩ = some (.int .i64 800000) := (blk_cell B0.out 1).trans rfl
  have B0f1 : w1.frozen? ⟨w.heap.size, 1, none⟩ = false := blk_frozen B0.out 1
  have B0c2 : w1.cell? ⟨w.heap.size, 2, none⟩ = some (.int .i64 f) := (blk_cell B0.out 2).trans rfl
  have B0f2 : w1.frozen? ⟨w.heap.size, 2, none⟩ = false := blk_frozen B0.out 2
  have B0l := blk_lt B0.out
  have B1 := n1_
  have B1c0 : w1.cell? ⟨w.heap.size + 1, 0, none⟩ = some (.bool false) := (blk_cell B1.out 0).trans rfl
  have B1f0 : w1.frozen? ⟨w.heap.size + 1, 0, none⟩ = false := blk_frozen B1.out 0
  have B1c1 : w1.cell? ⟨w.heap.size + 1, 1, none⟩ = some (.int .i64 0) := (blk_cell B1.out 1).trans rfl
  have B1f1 : w1.frozen? ⟨w.heap.size + 1, 1, none⟩ = false := blk_frozen B1.out 1
  have B1c2 : w1.cell? ⟨w.heap.size + 1, 2, none⟩ = some (.int .i64 0) := (blk_cell B1.out 2).trans rfl
  have B1f2 : w1.frozen? ⟨w.heap.size + 1, 2, none⟩ = false := blk_frozen B1.out 2
  have B1l := blk_lt B1.out
  have B2 := n2_
  have B2c0 : w1.cell? ⟨w.heap.size + 1 + 1, 0, none⟩ = some (.bool true) := (blk_cell B2.out 0).trans rfl
  have B2f0 : w1.frozen? ⟨w.heap.size + 1 + 1, 0, none⟩ = false := blk_frozen B2.out 0
  have B2c1 : w1.cell? ⟨w.heap.size + 1 + 1, 1, none⟩ = some (.int .i64 800000) := (blk_cell B2.out 1).trans rfl
  have B2f1 : w1.frozen? ⟨w.heap.size + 1 + 1, 1, none⟩ = false := blk_frozen B2.out 1
  have B2c2 : w1.cell? ⟨w.heap.size + 1 + 1, 2, none⟩ = some (.int .i64 f) := (blk_cell B2.out 2).trans rfl
  have B2f2 : w1.frozen? ⟨w.heap.size + 1 + 1, 2, none⟩ = false := blk_frozen B2.out 2
  have B2l := blk_lt B2.out
  have HB := nb_
  have HBs : w.heap.size ≤ w1.heap.size := HB.out.size
  clear nb_ n0_ n1_ n2_
  go_wp2
  refine bodyPost_ret (results_ct rfl _ _ (w.heap.size + 1) 28 #[.bool true, .int .i64 800000, .int .i64 (f - f / 4)] (0, 0) _ rfl (by (repeat (first | with_reducible refine blk_alloc ?_ _ | with_reducible refine blk_drewN ?_ _ | with_reducible refine blk_drew ?_ | (with_reducible refine blk_far ?_ ?hb _; (case hb => first | omega | (simp; done) | (simp; omega))))); refine blk_put (cs := #[.bool true, .int .i64 800000, .int .i64 0]) (cs' := #[.bool true, .int .i64 800000, .int .i64 (f - f / 4)]) ?_ 2 (.int .i64 (f - f / 4)) rfl; (repeat (first | with_reducible refine blk_alloc ?_ _ | with_reducible refine blk_drewN ?_ _ | with_reducible refine blk_drew ?_ | (with_reducible refine blk_far ?_ ?hb _; (case hb => first | omega | (simp; done) | (simp; omega))))); refine blk_put (cs := #[.bool true, .int .i64 0, .int .i64 0]) (cs' := #[.bool true, .int .i64 800000, .int .i64 0]) ?_ 1 (.int .i64 800000) rfl; (repeat (first | with_reducible refine blk_alloc ?_ _ | with_reducible refine blk_drewN ?_ _ | with_reducible refine blk_drew ?_ | (with_reducible refine blk_far ?_ ?hb _; (case hb => first | omega | (simp; done) | (simp; omega))))); refine blk_put (cs := #[.bool false, .int .i64 0, .int .i64 0]) (cs' := #[.bool true, .int .i64 0, .int .i64 0]) ?_ 0 (.bool true) rfl; (repeat (first | with_reducible exact B1.out | (with_reducible refine new_at _ _ _ ?hn; (case hn => first | rfl | (simp; done))) | with_reducible refine blk_alloc ?_ _ | with_reducible refine blk_drewN ?_ _ | with_reducible refine blk_drew ?_ | (with_reducible refine blk_far ?_ ?hb _; (case hb => first | omega | (simp; done) | (simp; omega)))))) Tryz.underlying28 rfl (by kernel_rfl)) rfl ⟨rfl, ?_⟩
  exact (by (repeat (first | with_reducible exact HB.out | with_reducible exact Below.refl _ _ | with_reducible apply below_alloc | with_reducible apply pw_below_drewN | with_reducible apply below_drew1 | (with_reducible refine below_set ?_ ?hy; (case hy => omega)))))
set_option maxHeartbeats 1600000 in
set_option maxRecDepth 100000 in
theorem take96.calls (a b n : Int) (w : World) (h0 : a ≤ n) (h1 : n ≤ b) :
    Calls Tryz.prog 96 #[.agg #[.int .i64 (a), .int .i64 (b)], .int .i64 (n)] w fun e w' => e = .returned (.int .i64 (n)) ∧ Below w.heap.size w w' := by
  have c0 : decide (n < a) = false := decide_eq_false (by omega)
  have c1 : decide (b < n) = false := decide_eq_false (by omega)
  go_enter Tryz.func96, Tryz.ntmps96
  go_wp2
  go_ret
  exact ⟨by simp, (by (repeat (first | with_reducible exact HB.out | with_reducible exact Below.refl _ _ | with_reducible apply below_alloc | with_reducible apply pw_below_drewN | with_reducible apply below_drew1 | (with_reducible refine below_set ?_ ?hy; (case hy => omega)))))⟩
set_option maxHeartbeats 1600000 in
set_option maxRecDepth 100000 in
theorem time0.calls  (w : World) :
    Calls Tryz.prog 98 #[.agg #[.bool false, .int .i64 0, .int .i64 0]] w fun e w' => e = .returned (.int .i64 100000) ∧ Below w.heap.size w w' := by
  go_enter Tryz.func98, Tryz.ntmps98
  go_wp2
  go_ret
  exact ⟨rfl, (by (repeat (first | with_reducible exact HB.out | with_reducible exact Below.refl _ _ | with_reducible apply below_alloc | with_reducible apply pw_below_drewN | with_reducible apply below_drew1 | (with_reducible refine below_set ?_ ?hy; (case hy => omega)))))⟩
set_option maxHeartbeats 1600000 in
set_option maxRecDepth 100000 in
theorem time1.calls (f : Int) (w : World) (h0 : 0 ≤ f) (h1 : f ≤ 4294967296) :
    Calls Tryz.prog 98 #[.agg #[.bool true, .int .i64 800000, .int .i64 (f)]] w fun e w' => e = .returned (.int .i64 100000) ∧ Below w.heap.size w w' := by
  have c0 : decide (f ≥ 0) = true := decide_eq_true h0
  have c1 : decide (f ≤ 4294967296) = true := decide_eq_true h1
  go_enter Tryz.func98, Tryz.ntmps98
  go_wp2
  go_ret
  exact ⟨by simp [wrap64], (by (repeat (first | with_reducible exact HB.out | with_reducible exact Below.refl _ _ | with_reducible apply below_alloc | with_reducible apply pw_below_drewN | with_reducible apply below_drew1 | (with_reducible refine below_set ?_ ?hy; (case hy => omega)))))⟩
set_option maxHeartbeats 1600000 in
set_option maxRecDepth 100000 in
theorem idle.calls (win last now t : Int) (seg mx fst grain lst great burst : Int) (w : World) (h0 : 0 ≤ last) (h1 : last ≤ now) (h2 : now < 9223372036854775808) (h3 : now - last ≤ t) :
    Calls Tryz.prog 53 #[.int .i64 (win), .int .i64 (last), .int .i64 (now), .int .i64 (t), .agg #[.int .i64 (seg), .int .i64 (mx), .int .i64 (fst), .int .i64 (grain), .int .i64 (lst), .int .i64 (great), .int .i64 (burst)]] w fun e w' => e = .returned (.int .i64 (win)) ∧ Below w.heap.size w w' := by
  have D := Aside0.mk (fun W => sub.calls now last W h0 h1 h2)
  have c0 : decide (now - last ≤ t) = true := decide_eq_true h3
  go_enter Tryz.func53, Tryz.ntmps53
  go_wp2_with fail
  refine (D.out _).mono ?_
  rintro ev w1 ⟨rfl, hb1⟩
  go_wp2
  go_ret
  exact ⟨rfl, below_step (by (repeat (first | with_reducible exact HB.out | with_reducible exact Below.refl _ _ | with_reducible apply below_alloc | with_reducible apply pw_below_drewN | with_reducible apply below_drew1 | (with_reducible refine below_set ?_ ?hy; (case hy => omega))))) hb1⟩
set_option maxHeartbeats 1600000 in
set_option maxRecDepth 100000 in
theorem shift.calls (n : Int) (w : World) :
    Calls Tryz.prog 101 #[.agg #[.bool false, .int .i64 0, .int .i64 0, .int .i64 0, .int .i64 0, .int .i64 0], .int .i64 (n)] w fun e w' => e = .returned (.agg #[.bool false, .int .i64 0, .int .i64 0, .int .i64 0, .int .i64 0, .int .i64 0]) ∧ Below w.heap.size w w' := by
  go_enter Tryz.func101, Tryz.ntmps101
  go_wp2
  refine bodyPost_ret (v := .agg #[.bool false, .int .i64 0, .int .i64 0, .int .i64 0, .int .i64 0, .int .i64 0]) (by simp [results, go_sem]) rfl ⟨rfl, ?_⟩
  exact (by (repeat (first | with_reducible exact HB.out | with_reducible exact Below.refl _ _ | with_reducible apply below_alloc | with_reducible apply pw_below_drewN | with_reducible apply below_drew1 | (with_reducible refine below_set ?_ ?hy; (case hy => omega)))))
set_option maxHeartbeats 1600000 in
set_option maxRecDepth 100000 in
theorem pause.calls (last now : Int) (w : World) (h0 : 0 ≤ last) (h1 : last ≤ now) (h2 : now < 9223372036854775808) :
    Calls Tryz.prog 55 #[.agg #[.bool false, .int .i64 0, .int .i64 0, .int .i64 0, .int .i64 0, .int .i64 0], .int .i64 (last), .int .i64 (now)] w fun e w' => e = .returned (.agg #[.bool false, .int .i64 0, .int .i64 0, .int .i64 0, .int .i64 0, .int .i64 0]) ∧ Below w.heap.size w w' := by
  have D := Aside0.mk (fun W => sub.calls now last W h0 h1 h2)
  have F := Aside0.mk (fun W => shift.calls (now - last) W)
  go_enter Tryz.func55, Tryz.ntmps55
  go_wp2_with fail
  refine name_world (fun w_ => (w_.heap[w.heap.size]? = some (.cells #[.bool false, .int .i64 0, .int .i64 0, .int .i64 0, .int .i64 0, .int .i64 0] 35 (0, 0))) ∧ (w_.heap[w.heap.size + 1]? = some (.cells #[.bool false, .int .i64 0, .int .i64 0, .int .i64 0, .int .i64 0, .int .i64 0] 35 (0, 0))) ∧ Below w.heap.size w w_) ⟨by (repeat (first | (with_reducible refine new_at _ _ _ ?hn; (case hn => first | rfl | (simp; done))) | with_reducible refine blk_alloc ?_ _ | with_reducible refine blk_drewN ?_ _ | with_reducible refine blk_drew ?_ | (with_reducible refine blk_far ?_ ?hb _; (case hb => first | omega | (simp; done) | (simp; omega))))), by (repeat (first | (with_reducible refine new_at _ _ _ ?hn; (case hn => first | rfl | (simp; done))) | with_reducible refine blk_alloc ?_ _ | with_reducible refine blk_drewN ?_ _ | with_reducible refine blk_drew ?_ | (with_reducible refine blk_far ?_ ?hb _; (case hb => first | omega | (simp; done) | (simp; omega))))), by (repeat (first | with_reducible exact HB.out | with_reducible exact Below.refl _ _ | with_reducible apply below_alloc | with_reducible apply pw_below_drewN | with_reducible apply below_drew1 | (with_reducible refine below_set ?_ ?hy; (case hy => omega))))⟩ ?_
  rintro w1 ⟨n0_, n1_, nb_⟩
  replace n0_ := Aside0.mk n0_
  replace n1_ := Aside0.mk n1_
  replace nb_ := Aside0.mk nb_
  have B0 := n0_
  have B0c0 : w1.cell? ⟨w.heap.size, 0, none⟩ = some (.bool false) := (blk_cell B0.out 0).trans rfl
  have B0f0 : w1.frozen? ⟨w.heap.size, 0, none⟩ = false := blk_frozen B0.out 0
  have B0c1 : w1.cell? ⟨w.heap.size, 1, none⟩ = some (.int .i64 0) := (blk_cell B0.out 1).trans rfl
  have B0f1 : w1.frozen? ⟨w.heap.size, 1, none⟩ = false := blk_frozen B0.out 1
  have B0c2 : w1.cell? ⟨w.heap.size, 2, none⟩ = some (.int .i64 0) := (blk_cell B0.out 2).trans rfl
  have B0f2 : w1.frozen? ⟨w.heap.size, 2, none⟩ = false := blk_frozen B0.out 2
  have B0c3 : w1.cell? ⟨w.heap.size, 3, none⟩ = some (.int .i64 0) := (blk_cell B0.out 3).trans rfl
  have B0f3 : w1.frozen? ⟨w.heap.size, 3, none⟩ = false := blk_frozen B0.out 3
  have B0c4 : w1.cell? ⟨w.heap.size, 4, none⟩ = some (.int .i64 0) := (blk_cell B0.out 4).trans rfl
  have B0f4 : w1.frozen? ⟨w.heap.size, 4, none⟩ = false := blk_frozen B0.out 4
  have B0c5 : w1.cell? ⟨w.heap.size, 5, none⟩ = some (.int .i64 0) := (blk_cell B0.out 5).trans rfl
  have B0f5 : w1.frozen? ⟨w.heap.size, 5, none⟩ = false := blk_frozen B0.out 5
  have B0l := blk_lt B0.out
  have B1 := n1_
  have B1c0 : w1.cell? ⟨w.heap.size + 1, 0, none⟩ = some (.bool false) := (blk_cell B1.out 0).trans rfl
  have B1f0 : w1.frozen? ⟨w.heap.size + 1, 0, none⟩ = false := blk_frozen B1.out 0
  have B1c1 : w1.cell? ⟨w.heap.size + 1, 1, none⟩ = some (.int .i64 0) := (blk_cell B1.out 1).trans rfl
  have B1f1 : w1.frozen? ⟨w.heap.size + 1, 1, none⟩ = false := blk_frozen B1.out 1
  have B1c2 : w1.cell? ⟨w.heap.size + 1, 2, none⟩ = some (.int .i64 0) := (blk_cell B1.out 2).trans rfl
  have B1f2 : w1.frozen? ⟨w.heap.size + 1, 2, none⟩ = false := blk_frozen B1.out 2
  have B1c3 : w1.cell? ⟨w.heap.size + 1, 3, none⟩ = some (.int .i64 0) := (blk_cell B1.out 3).trans rfl
  have B1f3 : w1.frozen? ⟨w.heap.size + 1, 3, none⟩ = false := blk_frozen B1.out 3
  have B1c4 : w1.cell? ⟨w.heap.size + 1, 4, none⟩ = some (.int .i64 0) := (blk_cell B1.out 4).trans rfl
  have B1f4 : w1.frozen? ⟨w.heap.size + 1, 4, none⟩ = false := blk_frozen B1.out 4
  have B1c5 : w1.cell? ⟨w.heap.size + 1, 5, none⟩ = some (.int .i64 0) := (blk_cell B1.out 5).trans rfl
  have B1f5 : w1.frozen? ⟨w.heap.size + 1, 5, none⟩ = false := blk_frozen B1.out 5
  have B1l := blk_lt B1.out
  have HB := nb_
  have HBs : w.heap.size ≤ w1.heap.size := HB.out.size
  clear nb_ n0_ n1_
  go_cut [11] (fun v wx => Aside0 (wx.heap[w.heap.size + 1]? = some (.cells #[.bool false, .int .i64 0, .int .i64 0, .int .i64 0, .int .i64 0, .int .i64 0] 35 (0, 0))) ∧ Aside0 (Below w.heap.size w wx))
  case first =>
    go_region_with (first | (go_at_call 99; refine (D.out _).mono ?_; rintro ev w2 ⟨rfl, hb2⟩; have n0_ := Aside0.mk (blk_below (g := w.heap.size) (o := .cells #[.bool false, .int .i64 0, .int .i64 0, .int .i64 0, .int .i64 0, .int .i64 0] 35 (0, 0)) (by (repeat (first | with_reducible exact B0.out | (with_reducible refine new_at _ _ _ ?hn; (case hn => first | rfl | (simp; done))) | with_reducible refine blk_alloc ?_ _ | with_reducible refine blk_drewN ?_ _ | with_reducible refine blk_drew ?_ | (with_reducible refine blk_far ?_ ?hb _; (case hb => first | omega | (simp; done) | (simp; omega)))))) hb2); have n1_ := Aside0.mk (blk_below (g := w.heap.size + 1) (o := .cells #[.bool false, .int .i64 0, .int .i64 0, .int .i64 0, .int .i64 0, .int .i64 0] 35 (0, 0)) (by (repeat (first | with_reducible exact B1.out | (with_reducible refine new_at _ _ _ ?hn; (case hn => first | rfl | (simp; done))) | with_reducible refine blk_alloc ?_ _ | with_reducible refine blk_drewN ?_ _ | with_reducible refine blk_drew ?_ | (with_reducible refine blk_far ?_ ?hb _; (case hb => first | omega | (simp; done) | (simp; omega)))))) hb2); have nb_ : Aside0 (Below w.heap.size w w2) := ⟨below_step (by (repeat (first | with_reducible exact HB.out | with_reducible exact Below.refl _ _ | with_reducible apply below_alloc | with_reducible apply pw_below_drewN | with_reducible apply below_drew1 | (with_reducible refine below_set ?_ ?hy; (case hy => omega))))) hb2⟩; clear B0c0 B0f0 B0c1 B0f1 B0c2 B0f2 B0c3 B0f3 B0c4 B0f4 B0c5 B0f5 B0l B0 B1c0 B1f0 B1c1 B1f1 B1c2 B1f2 B1c3 B1f3 B1c4 B1f4 B1c5 B1f5 B1l B1 HB HBs; clear hb2; have B0 := n0_; have B0c0 : w2.cell? ⟨w.heap.size, 0, none⟩ = some (.bool false) := (blk_cell B0.out 0).trans rfl; have B0f0 : w2.frozen? ⟨w.heap.size, 0, none⟩ = false := blk_frozen B0.out 0; have B0c1 : w2.cell? ⟨w.heap.size, 1, none⟩ = some (.int .i64 0) := (blk_cell B0.out 1).trans rfl; have B0f1 : w2.frozen? ⟨w.heap.size, 1, none⟩ = false := blk_frozen B0.out 1; have B0c2 : w2.cell? ⟨w.heap.size, 2, none⟩ = some (.int .i64 0) := (blk_cell B0.out 2).trans rfl; have B0f2 : w2.frozen? ⟨w.heap.size, 2, none⟩ = false := blk_frozen B0.out 2; have B0c3 : w2.cell? ⟨w.heap.size, 3, none⟩ = some (.int .i64 0) := (blk_cell B0.out 3).trans rfl; have B0f3 : w2.frozen? ⟨w.heap.size, 3, none⟩ = false := blk_frozen B0.out 3; have B0c4 : w2.cell? ⟨w.heap.size, 4, none⟩ = some (.int .i64 0) := (blk_cell B0.out 4).trans rfl; have B0f4 : w2.frozen? ⟨w.heap.size, 4, none⟩ = false := blk_frozen B0.out 4; have B0c5 : w2.cell? ⟨w.heap.size, 5, none⟩ = some (.int .i64 0) := (blk_cell B0.out 5).trans rfl; have B0f5 : w2.frozen? ⟨w.heap.size, 5, none⟩ = false := blk_frozen B0.out 5; have B0l := blk_lt B0.out; have B1 := n1_; have B1c0 : w2.cell? ⟨w.heap.size + 1, 0, none⟩ = some (.bool false) := (blk_cell B1.out 0).trans rfl; have B1f0 : w2.frozen? ⟨w.heap.size + 1, 0, none⟩ = false := blk_frozen B1.out 0; have B1c1 : w2.cell? ⟨w.heap.size + 1, 1, none⟩ = some (.int .i64 0) := (blk_cell B1.out 1).trans rfl; have B1f1 : w2.frozen? ⟨w.heap.size + 1, 1, none⟩ = false := blk_frozen B1.out 1; have B1c2 : w2.cell? ⟨w.heap.size + 1, 2, none⟩ = some (.int .i64 0) := (blk_cell B1.out 2).trans rfl; have B1f2 : w2.frozen? ⟨w.heap.size + 1, 2, none⟩ = false := blk_frozen B1.out 2; have B1c3 : w2.cell? ⟨w.heap.size + 1, 3, none⟩ = some (.int .i64 0) := (blk_cell B1.out 3).trans rfl; have B1f3 : w2.frozen? ⟨w.heap.size + 1, 3, none⟩ = false := blk_frozen B1.out 3; have B1c4 : w2.cell? ⟨w.heap.size + 1, 4, none⟩ = some (.int .i64 0) := (blk_cell B1.out 4).trans rfl; have B1f4 : w2.frozen? ⟨w.heap.size + 1, 4, none⟩ = false := blk_frozen B1.out 4; have B1c5 : w2.cell? ⟨w.heap.size + 1, 5, none⟩ = some (.int .i64 0) := (blk_cell B1.out 5).trans rfl; have B1f5 : w2.frozen? ⟨w.heap.size + 1, 5, none⟩ = false := blk_frozen B1.out 5; have B1l := blk_lt B1.out; have HB := nb_; have HBs : w.heap.size ≤ w2.heap.size := HB.out.size; clear nb_ n0_ n1_) | (go_at_call 101; refine (F.out _).mono ?_; rintro ev w3 ⟨rfl, hb3⟩; have n0_ := Aside0.mk (blk_below (g := w.heap.size) (o := .cells #[.bool false, .int .i64 0, .int .i64 0, .int .i64 0, .int .i64 0, .int .i64 0] 35 (0, 0)) (by (repeat (first | with_reducible exact B0.out | (with_reducible refine new_at _ _ _ ?hn; (case hn => first | rfl | (simp; done))) | with_reducible refine blk_alloc ?_ _ | with_reducible refine blk_drewN ?_ _ | with_reducible refine blk_drew ?_ | (with_reducible refine blk_far ?_ ?hb _; (case hb => first | omega | (simp; done) | (simp; omega)))))) hb3); have n1_ := Aside0.mk (blk_below (g := w.heap.size + 1) (o := .cells #[.bool false, .int .i64 0, .int .i64 0, .int .i64 0, .int .i64 0, .int .i64 0] 35 (0, 0)) (by (repeat (first | with_reducible exact B1.out | (with_reducible refine new_at _ _ _ ?hn; (case hn => first | rfl | (simp; done))) | with_reducible refine blk_alloc ?_ _ | with_reducible refine blk_drewN ?_ _ | with_reducible refine blk_drew ?_ | (with_reducible refine blk_far ?_ ?hb _; (case hb => first | omega | (simp; done) | (simp; omega)))))) hb3); have nb_ : Aside0 (Below w.heap.size w w3) := ⟨below_step (by (repeat (first | with_reducible exact HB.out | with_reducible exact Below.refl _ _ | with_reducible apply below_alloc | with_reducible apply pw_below_drewN | with_reducible apply below_drew1 | (with_reducible refine below_set ?_ ?hy; (case hy => omega))))) hb3⟩; clear B0c0 B0f0 B0c1 B0f1 B0c2 B0f2 B0c3 B0f3 B0c4 B0f4 B0c5 B0f5 B0l B0 B1c0 B1f0 B1c1 B1f1 B1c2 B1f2 B1c3 B1f3 B1c4 B1f4 B1c5 B1f5 B1l B1 HB HBs; clear hb3; have B0 := n0_; have B0c0 : w3.cell? ⟨w.heap.size, 0, none⟩ = some (.bool false) := (blk_cell B0.out 0).trans rfl; have B0f0 : w3.frozen? ⟨w.heap.size, 0, none⟩ = false := blk_frozen B0.out 0; have B0c1 : w3.cell? ⟨w.heap.size, 1, none⟩ = some (.int .i64 0) := (blk_cell B0.out 1).trans rfl; have B0f1 : w3.frozen? ⟨w.heap.size, 1, none⟩ = false := blk_frozen B0.out 1; have B0c2 : w3.cell? ⟨w.heap.size, 2, none⟩ = some (.int .i64 0) := (blk_cell B0.out 2).trans rfl; have B0f2 : w3.frozen? ⟨w.heap.size, 2, none⟩ = false := blk_frozen B0.out 2; have B0c3 : w3.cell? ⟨w.heap.size, 3, none⟩ = some (.int .i64 0) := (blk_cell B0.out 3).trans rfl; have B0f3 : w3.frozen? ⟨w.heap.size, 3, none⟩ = false := blk_frozen B0.out 3; have B0c4 : w3.cell? ⟨w.heap.size, 4, none⟩ = some (.int .i64 0) := (blk_cell B0.out 4).trans rfl; have B0f4 : w3.frozen? ⟨w.heap.size, 4, none⟩ = false := blk_frozen B0.out 4; have B0c5 : w3.cell? ⟨w.heap.size, 5, none⟩ = some (.int .i64 0) := (blk_cell B0.out 5).trans rfl; have B0f5 : w3.frozen? ⟨w.heap.size, 5, none⟩ = false := blk_frozen B0.out 5; have B0l := blk_lt B0.out; have B1 := n1_; have B1c0 : w3.cell? ⟨w.heap.size + 1, 0, none⟩ = some (.bool false) := (blk_cell B1.out 0).trans rfl; have B1f0 : w3.frozen? ⟨w.heap.size + 1, 0, none⟩ = false := blk_frozen B1.out 0; have B1c1 : w3.cell? ⟨w.heap.size + 1, 1, none⟩ = some (.int .i64 0) := (blk_cell B1.out 1).trans rfl; have B1f1 : w3.frozen? ⟨w.heap.size + 1, 1, none⟩ = false := blk_frozen B1.out 1; have B1c2 : w3.cell? ⟨w.heap.size + 1, 2, none⟩ = some (.int .i64 0) := (blk_cell B1.out 2).trans rfl; have B1f2 : w3.frozen? ⟨w.heap.size + 1, 2, none⟩ = false := blk_frozen B1.out 2; have B1c3 : w3.cell? ⟨w.heap.size + 1, 3, none⟩ = some (.int .i64 0) := (blk_cell B1.out 3).trans rfl; have B1f3 : w3.frozen? ⟨w.heap.size + 1, 3, none⟩ = false := blk_frozen B1.out 3; have B1c4 : w3.cell? ⟨w.heap.size + 1, 4, none⟩ = some (.int .i64 0) := (blk_cell B1.out 4).trans rfl; have B1f4 : w3.frozen? ⟨w.heap.size + 1, 4, none⟩ = false := blk_frozen B1.out 4; have B1c5 : w3.cell? ⟨w.heap.size + 1, 5, none⟩ = some (.int .i64 0) := (blk_cell B1.out 5).trans rfl; have B1f5 : w3.frozen? ⟨w.heap.size + 1, 5, none⟩ = false := blk_frozen B1.out 5; have B1l := blk_lt B1.out; have HB := nb_; have HBs : w.heap.size ≤ w3.heap.size := HB.out.size; clear nb_ n0_ n1_))
    all_goals go_wp2
    all_goals go_meet
    all_goals exact ⟨⟨(by (repeat (first | with_reducible refine blk_alloc ?_ _ | with_reducible refine blk_drewN ?_ _ | with_reducible refine blk_drew ?_ | (with_reducible refine blk_far ?_ ?hb _; (case hb => first | omega | (simp; done) | (simp; omega))))); refine blk_put (cs := #[.bool false, .int .i64 0, .int .i64 0, .int .i64 0, .int .i64 0, .int .i64 0]) (cs' := #[.bool false, .int .i64 0, .int .i64 0, .int .i64 0, .int .i64 0, .int .i64 0]) ?_ 5 (.int .i64 0) rfl; (repeat (first | with_reducible refine blk_alloc ?_ _ | with_reducible refine blk_drewN ?_ _ | with_reducible refine blk_drew ?_ | (with_reducible refine blk_far ?_ ?hb _; (case hb => first | omega | (simp; done) | (simp; omega))))); refine blk_put (cs := #[.bool false, .int .i64 0, .int .i64 0, .int .i64 0, .int .i64 0, .int .i64 0]) (cs' := #[.bool false, .int .i64 0, .int .i64 0, .int .i64 0, .int .i64 0, .int .i64 0]) ?_ 4 (.int .i64 0) rfl; (repeat (first | with_reducible refine blk_alloc ?_ _ | with_reducible refine blk_drewN ?_ _ | with_reducible refine blk_drew ?_ | (with_reducible refine blk_far ?_ ?hb _; (case hb => first | omega | (simp; done) | (simp; omega))))); refine blk_put (cs := #[.bool false, .int .i64 0, .int .i64 0, .int .i64 0, .int .i64 0, .int .i64 0]) (cs' := #[.bool false, .int .i64 0, .int .i64 0, .int .i64 0, .int .i64 0, .int .i64 0]) ?_ 3 (.int .i64 0) rfl; (repeat (first | with_reducible refine blk_alloc ?_ _ | with_reducible refine blk_drewN ?_ _ | with_reducible refine blk_drew ?_ | (with_reducible refine blk_far ?_ ?hb _; (case hb => first | omega | (simp; done) | (simp; omega))))); refine blk_put (cs := #[.bool false, .int .i64 0, .int .i64 0, .int .i64 0, .int .i64 0, .int .i64 0]) (cs' := #[.bool false, .int .i64 0, .int .i64 0, .int .i64 0, .int .i64 0, .int .i64 0]) ?_ 2 (.int .i64 0) rfl; (repeat (first | with_reducible refine blk_alloc ?_ _ | with_reducible refine blk_drewN ?_ _ | with_reducible refine blk_drew ?_ | (with_reducible refine blk_far ?_ ?hb _; (case hb => first | omega | (simp; done) | (simp; omega))))); refine blk_put (cs := #[.bool false, .int .i64 0, .int .i64 0, .int .i64 0, .int .i64 0, .int .i64 0]) (cs' := #[.bool false, .int .i64 0, .int .i64 0, .int .i64 0, .int .i64 0, .int .i64 0]) ?_ 1 (.int .i64 0) rfl; (repeat (first | with_reducible refine blk_alloc ?_ _ | with_reducible refine blk_drewN ?_ _ | with_reducible refine blk_drew ?_ | (with_reducible refine blk_far ?_ ?hb _; (case hb => first | omega | (simp; done) | (simp; omega))))); refine blk_put (cs := #[.bool false, .int .i64 0, .int .i64 0, .int .i64 0, .int .i64 0, .int .i64 0]) (cs' := #[.bool false, .int .i64 0, .int .i64 0, .int .i64 0, .int .i64 0, .int .i64 0]) ?_ 0 (.bool false) rfl; (repeat (first | with_reducible exact B1.out | (with_reducible refine new_at _ _ _ ?hn; (case hn => first | rfl | (simp; done))) | with_reducible refine blk_alloc ?_ _ | with_reducible refine blk_drewN ?_ _ | with_reducible refine blk_drew ?_ | (with_reducible refine blk_far ?_ ?hb _; (case hb => first | omega | (simp; done) | (simp; omega))))))⟩, ⟨(by (repeat (first | with_reducible exact HB.out | with_reducible exact Below.refl _ _ | with_reducible apply below_alloc | with_reducible apply pw_below_drewN | with_reducible apply below_drew1 | (with_reducible refine below_set ?_ ?hy; (case hy => omega)))))⟩⟩
  case rest =>
    obtain ⟨B1, HB⟩ := hcut
    have B1c0 : wc.cell? ⟨w.heap.size + 1, 0, none⟩ = some (.bool false) := (blk_cell B1.out 0).trans rfl
    have B1f0 : wc.frozen? ⟨w.heap.size + 1, 0, none⟩ = false := blk_frozen B1.out 0
    have B1c1 : wc.cell? ⟨w.heap.size + 1, 1, none⟩ = some (.int .i64 0) := (blk_cell B1.out 1).trans rfl
    have B1f1 : wc.frozen? ⟨w.heap.size + 1, 1, none⟩ = false := blk_frozen B1.out 1
    have B1c2 : wc.cell? ⟨w.heap.size + 1, 2, none⟩ = some (.int .i64 0) := (blk_cell B1.out 2).trans rfl
    have B1f2 : wc.frozen? ⟨w.heap.size + 1, 2, none⟩ = false := blk_frozen B1.out 2
    have B1c3 : wc.cell? ⟨w.heap.size + 1, 3, none⟩ = some (.int .i64 0) := (blk_cell B1.out 3).trans rfl
    have B1f3 : wc.frozen? ⟨w.heap.size + 1, 3, none⟩ = false := blk_frozen B1.out 3
    have B1c4 : wc.cell? ⟨w.heap.size + 1, 4, none⟩ = some (.int .i64 0) := (blk_cell B1.out 4).trans rfl
    have B1f4 : wc.frozen? ⟨w.heap.size + 1, 4, none⟩ = false := blk_frozen B1.out 4
    have B1c5 : wc.cell? ⟨w.heap.size + 1, 5, none⟩ = some (.int .i64 0) := (blk_cell B1.out 5).trans rfl
    have B1f5 : wc.frozen? ⟨w.heap.size + 1, 5, none⟩ = false := blk_frozen B1.out 5
    have B1l := blk_lt B1.out
    go_wp2
    refine bodyPost_ret (results_cell_row rfl _ _ (w.heap.size + 1) 35 #[.bool false, .int .i64 0, .int .i64 0, .int .i64 0, .int .i64 0, .int .i64 0] (0, 0) _ rfl (by (repeat (first | with_reducible exact B1.out | (with_reducible refine new_at _ _ _ ?hn; (case hn => first | rfl | (simp; done))) | with_reducible refine blk_alloc ?_ _ | with_reducible refine blk_drewN ?_ _ | with_reducible refine blk_drew ?_ | (with_reducible refine blk_far ?_ ?hb _; (case hb => first | omega | (simp; done) | (simp; omega)))))) Tryz.underlying35 rfl (by kernel_rfl)) rfl ⟨rfl, ?_⟩
    exact (by (repeat (first | with_reducible exact HB.out | with_reducible exact Below.refl _ _ | with_reducible apply below_alloc | with_reducible apply pw_below_drewN | with_reducible apply below_drew1 | (with_reducible refine below_set ?_ ?hy; (case hy => omega)))))
set_option maxHeartbeats 1600000 in
set_option maxRecDepth 100000 in
theorem limit.calls (x m : Int) (w : World) (h0 : 131072 ≤ x) (h1 : x ≤ 68719476736) (h2 : 131072 ≤ m) (h3 : m ≤ 68719476736) :
    Calls Tryz.prog 68 #[.int .i64 (x), .int .i64 (m)] w fun e w' => e = .returned (.int .i64 (if m < x then m else x)) ∧ Below w.heap.size w w' := by
  have c0 : decide (x < 131072) = false := decide_eq_false (by omega)
  have c1 : decide (68719476736 < x) = false := decide_eq_false (by omega)
  have c2 : decide (m < 131072) = false := decide_eq_false (by omega)
  have c3 : decide (68719476736 < m) = false := decide_eq_false (by omega)
  go_enter Tryz.func68, Tryz.ntmps68
  go_wp2
  all_goals go_ret
  all_goals exact ⟨by first | rfl | (simp; done), (by (repeat (first | with_reducible exact HB.out | with_reducible exact Below.refl _ _ | with_reducible apply below_alloc | with_reducible apply pw_below_drewN | with_reducible apply below_drew1 | (with_reducible refine below_set ?_ ?hy; (case hy => omega)))))⟩
set_option maxHeartbeats 1600000 in
set_option maxRecDepth 100000 in
theorem by185.calls (x l n y : Int) (w : World) (h0 : 0 ≤ n) (hy : y = if 524288 < n then 524288 else n) :
    Calls Tryz.prog 185 #[.agg #[.int .i64 (l), .int .i64 0, .int .i64 0, .bool false, .bool false, .int .i64 0, .int .i64 0], .int .i64 (x), .int .i64 (n)] w fun e w' => e = .returned (.int .i64 (y)) ∧ Below w.heap.size w w' := by
  rcases (by omega : n ≤ 524288 ∨ 524288 < n) with hn | hn
  · rw [if_neg (by omega)] at hy
    rw [hy]
    clear hy
    have c0 : decide (524288 < n) = false := decide_eq_false (by omega)
    have c1 : decide (n < 0) = false := decide_eq_false (by omega)
    have c3 : ¬ 524288 < n := by omega
    have c4 : ¬ n < 0 := by omega
    go_enter Tryz.func185, Tryz.ntmps185
    go_wp2
    all_goals first | (go_ret; exact ⟨by first | rfl | (simp; done) | (simp; omega), (by (repeat (first | with_reducible exact HB.out | with_reducible exact Below.refl _ _ | with_reducible apply below_alloc | with_reducible apply pw_below_drewN | with_reducible apply below_drew1 | (with_reducible refine below_set ?_ ?hy; (case hy => omega)))))⟩)
  · rw [if_pos hn] at hy
    rw [hy]
    clear hy
    go_enter Tryz.func185, Tryz.ntmps185
    go_wp2
    all_goals first | (go_ret; exact ⟨by first | rfl | (simp; done) | (simp; omega), (by (repeat (first | with_reducible exact HB.out | with_reducible exact Below.refl _ _ | with_reducible apply below_alloc | with_reducible apply pw_below_drewN | with_reducible apply below_drew1 | (with_reducible refine below_set ?_ ?hy; (case hy => omega)))))⟩)
set_option maxHeartbeats 1600000 in
set_option maxRecDepth 100000 in
theorem slow.calls (x l n y : Int) (w : World) (h0 : 131072 ≤ x) (h1 : x + 524288 ≤ 68719476736) (hn : n = if 524288 < x then 524288 else x) (hy : y = x + n) :
    Calls Tryz.prog 69 #[.int .i64 (x), .int .i64 (x), .agg #[.int .i64 (l), .int .i64 0, .int .i64 0, .bool false, .bool false, .int .i64 0, .int .i64 0]] w fun e w' => e = .returned (.int .i64 (y)) ∧ Below w.heap.size w w' := by
  have hm : ∀ W : World, (method 321 157 (.agg #[.int .i64 (l), .int .i64 0, .int .i64 0, .bool false, .bool false, .int .i64 0, .int .i64 0]) "sawtooth/grow.by").run Tryz.prog W = .ok (185, .agg #[.int .i64 (l), .int .i64 0, .int .i64 0, .bool false, .bool false, .int .i64 0, .int .i64 0]) W := fun _ => by kernel_rfl
  have a182 : ∀ W : World, (Instr.typeAssert (.iface 157 (.agg #[.int .i64 (l), .int .i64 0, .int .i64 0, .bool false, .bool false, .int .i64 0, .int .i64 0])) 180 182 true).run Tryz.prog W = .ok (.tuple #[.agg #[.nilIface, .int .i64 0], .bool false]) W := fun _ => by kernel_rfl
  have a184 : ∀ W : World, (Instr.typeAssert (.iface 157 (.agg #[.int .i64 (l), .int .i64 0, .int .i64 0, .bool false, .bool false, .int .i64 0, .int .i64 0])) 180 184 true).run Tryz.prog W = .ok (.tuple #[.agg #[.int .i64 0], .bool false]) W := fun _ => by kernel_rfl
  have hn0 : 0 ≤ n ∧ n ≤ 524288 := by split at hn <;> omega
  have D := Aside0.mk (fun W => by185.calls x l x n W (by omega) hn)
  have E := Aside0.mk (show ∀ W : World, Calls Tryz.prog 49 #[.int .i64 x, .int .i64 n] W fun e w' => e = .returned (.int .i64 y) ∧ Below W.heap.size W w' from fun W => by rw [hy]; exact add.calls x n W (by omega) hn0.1 (by omega))
  have c0 : decide (x < 131072) = false := decide_eq_false (by omega)
  have c1 : decide (68719476736 < x) = false := decide_eq_false (by omega)
  have c2 : decide (x < 0) = false := decide_eq_false (by omega)
  have c3 : decide (y < 131072) = false := decide_eq_false (by omega)
  have c4 : decide (68719476736 < y) = false := decide_eq_false (by omega)
  clear hn hy hn0
  go_enter Tryz.func69, Tryz.ntmps69
  go_wp2_with (first | (go_at_call 113; go_in) | (go_at_call 112; go_in) | (go_at_call 90; go_in) | (go_at_call 185; refine (D.out _).mono ?_; rintro ev w1 ⟨rfl, hb1⟩; have n0_ := Aside0.mk (blk_below (g := w.heap.size) (o := .cells #[.int .i64 l, .int .i64 0, .int .i64 0, .bool false, .bool false, .int .i64 0, .int .i64 0] 33 (0, 0)) (by (repeat (first | (with_reducible refine new_at _ _ _ ?hn; (case hn => first | rfl | (simp; done))) | with_reducible refine blk_alloc ?_ _ | with_reducible refine blk_drewN ?_ _ | with_reducible refine blk_drew ?_ | (with_reducible refine blk_far ?_ ?hb _; (case hb => first | omega | (simp; done) | (simp; omega)))))) hb1); have nb_ : Aside0 (Below w.heap.size w w1) := ⟨below_step (by (repeat (first | with_reducible exact HB.out | with_reducible exact Below.refl _ _ | with_reducible apply below_alloc | with_reducible apply pw_below_drewN | with_reducible apply below_drew1 | (with_reducible refine below_set ?_ ?hy; (case hy => omega))))) hb1⟩; clear hb1; have B0 := n0_; have B0c0 : w1.cell? ⟨w.heap.size, 0, none⟩ = some (.int .i64 l) := (blk_cell B0.out 0).trans rfl; have B0f0 : w1.frozen? ⟨w.heap.size, 0, none⟩ = false := blk_frozen B0.out 0; have B0c1 : w1.cell? ⟨w.heap.size, 1, none⟩ = some (.int .i64 0) := (blk_cell B0.out 1).trans rfl; have B0f1 : w1.frozen? ⟨w.heap.size, 1, none⟩ = false := blk_frozen B0.out 1; have B0c2 : w1.cell? ⟨w.heap.size, 2, none⟩ = some (.int .i64 0) := (blk_cell B0.out 2).trans rfl; have B0f2 : w1.frozen? ⟨w.heap.size, 2, none⟩ = false := blk_frozen B0.out 2; have B0c3 : w1.cell? ⟨w.heap.size, 3, none⟩ = some (.bool false) := (blk_cell B0.out 3).trans rfl; have B0f3 : w1.frozen? ⟨w.heap.size, 3, none⟩ = false := blk_frozen B0.out 3; have B0c4 : w1.cell? ⟨w.heap.size, 4, none⟩ = some (.bool false) := (blk_cell B0.out 4).trans rfl; have B0f4 : w1.frozen? ⟨w.heap.size, 4, none⟩ = false := blk_frozen B0.out 4; have B0c5 : w1.cell? ⟨w.heap.size, 5, none⟩ = some (.int .i64 0) := (blk_cell B0.out 5).trans rfl; have B0f5 : w1.frozen? ⟨w.heap.size, 5, none⟩ = false := blk_frozen B0.out 5; have B0c6 : w1.cell? ⟨w.heap.size, 6, none⟩ = some (.int .i64 0) := (blk_cell B0.out 6).trans rfl; have B0f6 : w1.frozen? ⟨w.heap.size, 6, none⟩ = false := blk_frozen B0.out 6; have B0l := blk_lt B0.out; have HB := nb_; have HBs : w.heap.size ≤ w1.heap.size := HB.out.size; clear nb_ n0_) | (go_at_call 49; refine (E.out _).mono ?_; rintro ev w2 ⟨rfl, hb2⟩; have n0_ := Aside0.mk (blk_below (g := w.heap.size) (o := .cells #[.int .i64 l, .int .i64 0, .int .i64 0, .bool false, .bool false, .int .i64 0, .int .i64 0] 33 (0, 0)) (by (repeat (first | with_reducible exact B0.out | (with_reducible refine new_at _ _ _ ?hn; (case hn => first | rfl | (simp; done))) | with_reducible refine blk_alloc ?_ _ | with_reducible refine blk_drewN ?_ _ | with_reducible refine blk_drew ?_ | (with_reducible refine blk_far ?_ ?hb _; (case hb => first | omega | (simp; done) | (simp; omega)))))) hb2); have nb_ : Aside0 (Below w.heap.size w w2) := ⟨below_step (by (repeat (first | with_reducible exact HB.out | with_reducible exact Below.refl _ _ | with_reducible apply below_alloc | with_reducible apply pw_below_drewN | with_reducible apply below_drew1 | (with_reducible refine below_set ?_ ?hy; (case hy => omega))))) hb2⟩; clear B0c0 B0f0 B0c1 B0f1 B0c2 B0f2 B0c3 B0f3 B0c4 B0f4 B0c5 B0f5 B0c6 B0f6 B0l B0 HB HBs; clear hb2; have B0 := n0_; have B0c0 : w2.cell? ⟨w.heap.size, 0, none⟩ = some (.int .i64 l) := (blk_cell B0.out 0).trans rfl; have B0f0 : w2.frozen? ⟨w.heap.size, 0, none⟩ = false := blk_frozen B0.out 0; have B0c1 : w2.cell? ⟨w.heap.size, 1, none⟩ = some (.int .i64 0) := (blk_cell B0.out 1).trans rfl; have B0f1 : w2.frozen? ⟨w.heap.size, 1, none⟩ = false := blk_frozen B0.out 1; have B0c2 : w2.cell? ⟨w.heap.size, 2, none⟩ = some (.int .i64 0) := (blk_cell B0.out 2).trans rfl; have B0f2 : w2.frozen? ⟨w.heap.size, 2, none⟩ = false := blk_frozen B0.out 2; have B0c3 : w2.cell? ⟨w.heap.size, 3, none⟩ = some (.bool false) := (blk_cell B0.out 3).trans rfl; have B0f3 : w2.frozen? ⟨w.heap.size, 3, none⟩ = false := blk_frozen B0.out 3; have B0c4 : w2.cell? ⟨w.heap.size, 4, none⟩ = some (.bool false) := (blk_cell B0.out 4).trans rfl; have B0f4 : w2.frozen? ⟨w.heap.size, 4, none⟩ = false := blk_frozen B0.out 4; have B0c5 : w2.cell? ⟨w.heap.size, 5, none⟩ = some (.int .i64 0) := (blk_cell B0.out 5).trans rfl; have B0f5 : w2.frozen? ⟨w.heap.size, 5, none⟩ = false := blk_frozen B0.out 5; have B0c6 : w2.cell? ⟨w.heap.size, 6, none⟩ = some (.int .i64 0) := (blk_cell B0.out 6).trans rfl; have B0f6 : w2.frozen? ⟨w.heap.size, 6, none⟩ = false := blk_frozen B0.out 6; have B0l := blk_lt B0.out; have HB := nb_; have HBs : w.heap.size ≤ w2.heap.size := HB.out.size; clear nb_ n0_))
  all_goals first | (exfalso; have h9 := of_decide_eq_false c4; omega) | (go_ret; exact ⟨by simp, (by (repeat (first | with_reducible exact HB.out | with_reducible exact Below.refl _ _ | with_reducible apply below_alloc | with_reducible apply pw_below_drewN | with_reducible apply below_drew1 | (with_reducible refine below_set ?_ ?hy; (case hy => omega)))))⟩)
set_option maxHeartbeats 1600000 in
set_option maxRecDepth 100000 in
theorem used.calls (x n s : Int) (w : World) (h0 : 0 ≤ x) (h1 : 0 ≤ n) (h2 : 0 ≤ s) (h3 : x * s ≤ n * 131072) (h4 : n < 70368744177664) (h5 : x * s < 9223372036854775808) (h6 : x < 9223372036854775808) (h7 : s < 9223372036854775808) :
    Calls Tryz.prog 59 #[.int .i64 (x), .int .i64 (n), .int .i64 (s)] w fun e w' => e = .returned (.bool true) ∧ Below w.heap.size w w' := by
  have M1 := Aside0.mk (mul_pos n 131072 h1 (by omega) (by omega) (by omega) (by omega))
  have M2 := Aside0.mk (mul_pos x s h0 h2 h6 h7 h5)
  obtain ⟨r, hr, hr0⟩ : ∃ r : Int, big_Cmp.f 30 false 0 (n * 131072) false 0 (x * s) = some r ∧ r ≥ 0 := by
    rw [cmp_pos]
    by_cases he : n * 131072 = x * s
    · exact ⟨0, by rw [if_pos he], by omega⟩
    · exact ⟨1, by rw [if_neg he, if_neg (by omega)], by omega⟩
  have C := Aside0.mk hr
  clear hr
  have c0 : decide (x ≥ 0) = true := decide_eq_true h0
  have c1 : decide (n ≥ 0) = true := decide_eq_true h1
  have c2 : decide (s ≥ 0) = true := decide_eq_true h2
  have c3 : decide (r ≥ 0) = true := decide_eq_true hr0
  generalize n * 131072 = p at *
  generalize x * s = q at *
  go_enter Tryz.func59, Tryz.ntmps59
  go_wp2_with fail
  all_goals (refine (big_Mul.calls n 131072 false 0 p _ M1.out).mono ?_; rintro ev w1 ⟨rfl, hb1⟩; go_wp2_with fail; refine (big_Mul.calls x s false 0 q _ M2.out).mono ?_; rintro ev w2 ⟨rfl, hb2⟩; go_wp2_with fail; refine (big_Cmp.calls 30 false 0 p false 0 q r _ C.out).mono ?_; rintro ev w3 ⟨rfl, hb3⟩; go_wp2; go_ret; exact ⟨by simp, below_step (below_step hb1 hb2) hb3⟩)

end Go.Proofs.YtpkjdjhojbadhaaGreatDoor.Hp
