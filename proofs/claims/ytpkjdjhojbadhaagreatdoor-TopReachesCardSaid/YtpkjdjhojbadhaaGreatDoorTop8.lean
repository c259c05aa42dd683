/- rto.Of: a timeout of a tenth of a second, or more. -/
import Derived.Test.YtpkjdjhojbadhaaGreatDoorTop7
import Derived.WalkMore
set_option linter.unusedVariables false
set_option linter.unusedSimpArgs false
namespace Go.Proofs.YtpkjdjhojbadhaaGreatDoor.Hp
open Go.RowKit Go.Proofs.YtpkjdjhojbadhaaGreatDoorW.PrintWords Go.Proofs.YtpkjdjhojbadhaaGreatDoorW.PrintLast Go.Proofs.YtpkjdjhojbadhaaGreatDoorW.PrintMore
attribute [local go_sem] max2_int min2_int max_two min_two max_three min_three max_four min_four
set_option maxHeartbeats 1600000 in
set_option maxRecDepth 100000 in
theorem within.calls (n : Int) (w : World) (h0 : 1 ≤ n) (h1 : n ≤ 1099511627776) :
    Calls Tryz.prog 121 #[.int .i64 (n)] w fun e w' => e = .returned (.int .i64 (n)) ∧ Below w.heap.size w w' := by
  have c0 : decide (n < 1) = false := decide_eq_false (by omega)
  have c1 : decide (1099511627776 < n) = false := decide_eq_false (by omega)
  go_enter Tryz.func121, Tryz.ntmps121
  go_wp2
  all_goals first | (go_ret; exact ⟨by simp, Below.refl _ _⟩) | (exfalso; omega)
set_option maxHeartbeats 1600000 in
set_option maxRecDepth 100000 in
theorem base0.calls (seg mx fst grain lst great burst : Int) (w : World) :
    Calls Tryz.prog 134 #[.agg #[.bool false, .int .i64 0, .int .i64 0], .agg #[.int .i64 (seg), .int .i64 (mx), .int .i64 (fst), .int .i64 (grain), .int .i64 (lst), .int .i64 (great), .int .i64 (burst)]] w fun e w' => ∃ t : Int, 100000 ≤ t ∧ e = .returned (.int .i64 (t)) ∧ Below w.heap.size w w' := by
  go_enter Tryz.func134, Tryz.ntmps134
  go_wp2
  go_ret
  exact ⟨1000000, by omega, rfl, (by (repeat (first | with_reducible exact HB.out | with_reducible exact Below.refl _ _ | with_reducible apply below_alloc | with_reducible apply pw_below_drewN | with_reducible apply below_drew1 | (with_reducible refine below_set ?_ ?hy; (case hy => omega)))))⟩
set_option maxHeartbeats 1600000 in
set_option maxRecDepth 100000 in
theorem base1.calls (f : Int) (seg mx fst grain lst great burst : Int) (w : World) (h0 : 1 ≤ grain) (h1 : grain ≤ 1000000) (h2 : 0 ≤ f) (h3 : f ≤ 4294967296) :
    Calls Tryz.prog 134 #[.agg #[.bool true, .int .i64 800000, .int .i64 (f)], .agg #[.int .i64 (seg), .int .i64 (mx), .int .i64 (fst), .int .i64 (grain), .int .i64 (lst), .int .i64 (great), .int .i64 (burst)]] w fun e w' => ∃ t : Int, 100000 ≤ t ∧ e = .returned (.int .i64 (t)) ∧ Below w.heap.size w w' := by
  have c0 : decide (f ≥ 0) = true := decide_eq_true h2
  have c1 : decide (f ≤ 4294967296) = true := decide_eq_true h3
  have M := Aside0.mk (fun W => mean.calls true 800000 f W (by omega) (by omega))
  have G := Aside0.mk (fun W => within.calls grain W h0 (by omega))
  have e1 : wrap64 (100000 + f) = 100000 + f := wrap64_id _ (by omega) (by omega)
  have e2 : wrap64 (100000 + grain) = 100000 + grain := wrap64_id _ (by omega) (by omega)
  go_enter Tryz.func134, Tryz.ntmps134
  go_wp2_with (first | (go_at_call 39; go_in) | fail)
  refine name_world (fun w_ => (w_.heap[w.heap.size]? = some (.cells #[.bool true, .int .i64 800000, .int .i64 f] 28 (0, 0))) ∧ (w_.heap[w.heap.size + 1]? = some (.cells #[.int .i64 seg, .int .i64 mx, .int .i64 fst, .int .i64 grain, .int .i64 lst, .int .i64 great, .int .i64 burst] 23 (0, 0))) ∧ Below w.heap.size w w_) ⟨by (repeat (first | (with_reducible refine new_at _ _ _ ?hn; (case hn => first | rfl | (simp; done))) | with_reducible refine blk_alloc ?_ _ | with_reducible refine blk_drewN ?_ _ | with_reducible refine blk_drew ?_ | (with_reducible refine blk_far ?_ ?hb _; (case hb => first | omega | (simp; done) | (simp; omega))))), by (repeat (first | (with_reducible refine new_at _ _ _ ?hn; (case hn => first | rfl | (simp; done))) | with_reducible refine blk_alloc ?_ _ | with_reducible refine blk_drewN ?_ _ | with_reducible refine blk_drew ?_ | (with_reducible refine blk_far ?_ ?hb _; (case hb => first | omega | (simp; done) | (simp; omega))))), by (repeat (first | with_reducible exact HB.out | with_reducible exact Below.refl _ _ | with_reducible apply below_alloc | with_reducible apply pw_below_drewN | with_reducible apply below_drew1 | (with_reducible refine below_set ?_ ?hy; (case hy => omega))))⟩ ?_
  rintro w1 ⟨n0_, n1_, nb_⟩
  replace n0_ := Aside0.mk n0_
  replace n1_ := Aside0.mk n1_
  replace nb_ := Aside0.mk nb_
  have B0 := n0_
  have B0c0 : w1.cell? ⟨w.heap.size, 0, none⟩ = some (.bool true) := (blk_cell B0.out 0).trans rfl
  have B0f0 : w1.frozen? ⟨w.heap.size, 0, none⟩ = false := blk_frozen B0.out 0
  have B0c1 : w1.cell? ⟨w.heap.size, 1, none⟩ = some (.int .i64 800000) := (blk_cell B0.out 1).trans rfl
  have B0f1 : w1.frozen? ⟨w.heap.size, 1, none⟩ = false := blk_frozen B0.out 1
  have B0c2 : w1.cell? ⟨w.heap.size, 2, none⟩ = some (.int .i64 f) := (blk_cell B0.out 2).trans rfl
  have B0f2 : w1.frozen? ⟨w.heap.size, 2, none⟩ = false := blk_frozen B0.out 2
  have B0l := blk_lt B0.out
  have B1 := n1_
  have B1c0 : w1.cell? ⟨w.heap.size + 1, 0, none⟩ = some (.int .i64 seg) := (blk_cell B1.out 0).trans rfl
  have B1f0 : w1.frozen? ⟨w.heap.size + 1, 0, none⟩ = false := blk_frozen B1.out 0
  have B1c1 : w1.cell? ⟨w.heap.size + 1, 1, none⟩ = some (.int .i64 mx) := (blk_cell B1.out 1).trans rfl
  have B1f1 : w1.frozen? ⟨w.heap.size + 1, 1, none⟩ = false := blk_frozen B1.out 1
  have B1c2 : w1.cell? ⟨w.heap.size + 1, 2, none⟩ = some (.int .i64 fst) := (blk_cell B1.out 2).trans rfl
  have B1f2 : w1.frozen? ⟨w.heap.size + 1, 2, none⟩ = false := blk_frozen B1.out 2
  have B1c3 : w1.cell? ⟨w.heap.size + 1, 3, none⟩ = some (.int .i64 grain) := (blk_cell B1.out 3).trans rfl
  have B1f3 : w1.frozen? ⟨w.heap.size + 1, 3, none⟩ = false := blk_frozen B1.out 3
  have B1c4 : w1.cell? ⟨w.heap.size + 1, 4, none⟩ = some (.int .i64 lst) := (blk_cell B1.out 4).trans rfl
  have B1f4 : w1.frozen? ⟨w.heap.size + 1, 4, none⟩ = false := blk_frozen B1.out 4
  have B1c5 : w1.cell? ⟨w.heap.size + 1, 5, none⟩ = some (.int .i64 great) := (blk_cell B1.out 5).trans rfl
  have B1f5 : w1.frozen? ⟨w.heap.size + 1, 5, none⟩ = false := blk_frozen B1.out 5
  have B1c6 : w1.cell? ⟨w.heap.size + 1, 6, none⟩ = some (.int .i64 burst) := (blk_cell B1.out 6).trans rfl
  have B1f6 : w1.frozen? ⟨w.heap.size + 1, 6, none⟩ = false := blk_frozen B1.out 6
  have B1l := blk_lt B1.out
  have HB := nb_
  have HBs : w.heap.size ≤ w1.heap.size := HB.out.size
  clear nb_ n0_ n1_
  go_region_held3 (fun w' => w'.cell? ⟨w.heap.size, 0, none⟩ = some (.bool true) ∧ w'.cell? ⟨w.heap.size, 1, none⟩ = some (.int .i64 800000) ∧ w'.cell? ⟨w.heap.size, 2, none⟩ = some (.int .i64 f) ∧ w'.cell? ⟨w.heap.size + 1, 0, none⟩ = some (.int .i64 seg) ∧ w'.cell? ⟨w.heap.size + 1, 1, none⟩ = some (.int .i64 mx) ∧ w'.cell? ⟨w.heap.size + 1, 2, none⟩ = some (.int .i64 fst) ∧ w'.cell? ⟨w.heap.size + 1, 3, none⟩ = some (.int .i64 grain) ∧ w'.cell? ⟨w.heap.size + 1, 4, none⟩ = some (.int .i64 lst) ∧ w'.cell? ⟨w.heap.size + 1, 5, none⟩ = some (.int .i64 great) ∧ w'.cell? ⟨w.heap.size + 1, 6, none⟩ = some (.int .i64 burst) ∧ Below w.heap.size w w') (first | assumption | exact ⟨B0c0, B0c1, B0c2, B1c0, B1c1, B1c2, B1c3, B1c4, B1c5, B1c6, below_drew1 HB.out⟩ | exact keep10_0 (by assumption) (by assumption)) (first | (go_at_call 118; refine (M.out _).mono ?_; rintro ev w2 ⟨rfl, hb2⟩) | (go_at_call 121; refine (G.out _).mono ?_; rintro ev w3 ⟨rfl, hb3⟩))
  have hS : w3.cell? ⟨w.heap.size, 0, none⟩ = some (.bool true) ∧ w3.cell? ⟨w.heap.size, 1, none⟩ = some (.int .i64 800000) ∧ w3.cell? ⟨w.heap.size, 2, none⟩ = some (.int .i64 f) ∧ w3.cell? ⟨w.heap.size + 1, 0, none⟩ = some (.int .i64 seg) ∧ w3.cell? ⟨w.heap.size + 1, 1, none⟩ = some (.int .i64 mx) ∧ w3.cell? ⟨w.heap.size + 1, 2, none⟩ = some (.int .i64 fst) ∧ w3.cell? ⟨w.heap.size + 1, 3, none⟩ = some (.int .i64 grain) ∧ w3.cell? ⟨w.heap.size + 1, 4, none⟩ = some (.int .i64 lst) ∧ w3.cell? ⟨w.heap.size + 1, 5, none⟩ = some (.int .i64 great) ∧ w3.cell? ⟨w.heap.size + 1, 6, none⟩ = some (.int .i64 burst) ∧ Below w.heap.size w w3 := by assumption
  have hB := hS.2.2.2.2.2.2.2.2.2.2
  go_wp2
  all_goals go_ret
  all_goals exact ⟨_, by first | omega | (rw [i64_w, wrap64_id _ (by omega) (by omega)]; omega), rfl, hB⟩
set_option maxHeartbeats 1600000 in
set_option maxRecDepth 100000 in
theorem rtoOf0.calls (seg mx fst grain lst great burst : Int) (w : World) (h0 : 1 ≤ grain) (h1 : grain ≤ 1000000) (h2 : 1 ≤ lst) (h3 : lst ≤ great) (h4 : 100000 ≤ great) (h5 : great ≤ 1099511627776) :
    Calls Tryz.prog 100 #[.agg #[.bool false, .int .i64 0, .int .i64 0], .agg #[.int .i64 (seg), .int .i64 (mx), .int .i64 (fst), .int .i64 (grain), .int .i64 (lst), .int .i64 (great), .int .i64 (burst)], .int .i64 0] w fun e w' => ∃ t : Int, 100000 ≤ t ∧ e = .returned (.int .i64 (t)) ∧ Below w.heap.size w w' := by
  have K := Aside0.mk (fun W => within.calls great W (by omega) h5)
  have L := Aside0.mk (fun W => within.calls lst W h2 (by omega))
  have D := Aside0.mk (fun W => base0.calls seg mx fst grain lst great burst W)
  go_enter Tryz.func100, Tryz.ntmps100
  go_wp2_with fail
  go_step3
  go_wp2_with (first | (go_at_call 121; refine (K.out _).mono ?_; rintro ev w1 ⟨rfl, hb1⟩; have n0_ := Aside0.mk (blk_below (g := w.heap.size) (o := .cells #[.bool false, .int .i64 0, .int .i64 0] 28 (0, 0)) (by (repeat (first | (with_reducible refine new_at _ _ _ ?hn; (case hn => first | rfl | (simp; done))) | with_reducible refine blk_alloc ?_ _ | with_reducible refine blk_drewN ?_ _ | with_reducible refine blk_drew ?_ | (with_reducible refine blk_far ?_ ?hb _; (case hb => first | omega | (simp; done) | (simp; omega)))))) hb1); have n1_ := Aside0.mk (blk_below (g := w.heap.size + 1) (o := .cells #[.int .i64 seg, .int .i64 mx, .int .i64 fst, .int .i64 grain, .int .i64 lst, .int .i64 great, .int .i64 burst] 23 (0, 0)) (by (repeat (first | (with_reducible refine new_at _ _ _ ?hn; (case hn => first | rfl | (simp; done))) | with_reducible refine blk_alloc ?_ _ | with_reducible refine blk_drewN ?_ _ | with_reducible refine blk_drew ?_ | (with_reducible refine blk_far ?_ ?hb _; (case hb => first | omega | (simp; done) | (simp; omega)))))) hb1); have nb_ : Aside0 (Below w.heap.size w w1) := ⟨below_step (by (repeat (first | with_reducible exact HB.out | with_reducible exact Below.refl _ _ | with_reducible apply below_alloc | with_reducible apply pw_below_drewN | with_reducible apply below_drew1 | (with_reducible refine below_set ?_ ?hy; (case hy => omega))))) hb1⟩; clear hb1; have B0 := n0_; have B0c0 : w1.cell? ⟨w.heap.size, 0, none⟩ = some (.bool false) := (blk_cell B0.out 0).trans rfl; have B0f0 : w1.frozen? ⟨w.heap.size, 0, none⟩ = false := blk_frozen B0.out 0; have B0c1 : w1.cell? ⟨w.heap.size, 1, none⟩ = some (.int .i64 0) := (blk_cell B0.out 1).trans rfl; have B0f1 : w1.frozen? ⟨w.heap.size, 1, none⟩ = false := blk_frozen B0.out 1; have B0c2 : w1.cell? ⟨w.heap.size, 2, none⟩ = some (.int .i64 0) := (blk_cell B0.out 2).trans rfl; have B0f2 : w1.frozen? ⟨w.heap.size, 2, none⟩ = false := blk_frozen B0.out 2; have B0l := blk_lt B0.out; have B1 := n1_; have B1c0 : w1.cell? ⟨w.heap.size + 1, 0, none⟩ = some (.int .i64 seg) := (blk_cell B1.out 0).trans rfl; have B1f0 : w1.frozen? ⟨w.heap.size + 1, 0, none⟩ = false := blk_frozen B1.out 0; have B1c1 : w1.cell? ⟨w.heap.size + 1, 1, none⟩ = some (.int .i64 mx) := (blk_cell B1.out 1).trans rfl; have B1f1 : w1.frozen? ⟨w.heap.size + 1, 1, none⟩ = false := blk_frozen B1.out 1; have B1c2 : w1.cell? ⟨w.heap.size + 1, 2, none⟩ = some (.int .i64 fst) := (blk_cell B1.out 2).trans rfl; have B1f2 : w1.frozen? ⟨w.heap.size + 1, 2, none⟩ = false := blk_frozen B1.out 2; have B1c3 : w1.cell? ⟨w.heap.size + 1, 3, none⟩ = some (.int .i64 grain) := (blk_cell B1.out 3).trans rfl; have B1f3 : w1.frozen? ⟨w.heap.size + 1, 3, none⟩ = false := blk_frozen B1.out 3; have B1c4 : w1.cell? ⟨w.heap.size + 1, 4, none⟩ = some (.int .i64 lst) := (blk_cell B1.out 4).trans rfl; have B1f4 : w1.frozen? ⟨w.heap.size + 1, 4, none⟩ = false := blk_frozen B1.out 4; have B1c5 : w1.cell? ⟨w.heap.size + 1, 5, none⟩ = some (.int .i64 great) := (blk_cell B1.out 5).trans rfl; have B1f5 : w1.frozen? ⟨w.heap.size + 1, 5, none⟩ = false := blk_frozen B1.out 5; have B1c6 : w1.cell? ⟨w.heap.size + 1, 6, none⟩ = some (.int .i64 burst) := (blk_cell B1.out 6).trans rfl; have B1f6 : w1.frozen? ⟨w.heap.size + 1, 6, none⟩ = false := blk_frozen B1.out 6; have B1l := blk_lt B1.out; have HB := nb_; have HBs : w.heap.size ≤ w1.heap.size := HB.out.size; clear nb_ n0_ n1_) | fail)
  refine name_world (fun w_ => (w_.heap[w.heap.size]? = some (.cells #[.bool false, .int .i64 0, .int .i64 0] 28 (0, 0))) ∧ (w_.heap[w.heap.size + 1]? = some (.cells #[.int .i64 seg, .int .i64 mx, .int .i64 fst, .int .i64 grain, .int .i64 lst, .int .i64 great, .int .i64 burst] 23 (0, 0))) ∧ Below w.heap.size w w_) ⟨by (repeat (first | with_reducible exact B0.out | (with_reducible refine new_at _ _ _ ?hn; (case hn => first | rfl | (simp; done))) | with_reducible refine blk_alloc ?_ _ | with_reducible refine blk_drewN ?_ _ | with_reducible refine blk_drew ?_ | (with_reducible refine blk_far ?_ ?hb _; (case hb => first | omega | (simp; done) | (simp; omega))))), by (repeat (first | with_reducible exact B1.out | (with_reducible refine new_at _ _ _ ?hn; (case hn => first | rfl | (simp; done))) | with_reducible refine blk_alloc ?_ _ | with_reducible refine blk_drewN ?_ _ | with_reducible refine blk_drew ?_ | (with_reducible refine blk_far ?_ ?hb _; (case hb => first | omega | (simp; done) | (simp; omega))))), by (repeat (first | with_reducible exact HB.out | with_reducible exact Below.refl _ _ | with_reducible apply below_alloc | with_reducible apply pw_below_drewN | with_reducible apply below_drew1 | (with_reducible refine below_set ?_ ?hy; (case hy => omega))))⟩ ?_
  rintro w2 ⟨n0_, n1_, nb_⟩
  replace n0_ := Aside0.mk n0_
  replace n1_ := Aside0.mk n1_
  replace nb_ := Aside0.mk nb_
  clear B0c0 B0f0 B0c1 B0f1 B0c2 B0f2 B0l B0 B1c0 B1f0 B1c1 B1f1 B1c2 B1f2 B1c3 B1f3 B1c4 B1f4 B1c5 B1f5 B1c6 B1f6 B1l B1 HB HBs
  have B0 := n0_
  have B0c0 : w2.cell? ⟨w.heap.size, 0, none⟩ = some (.bool false) := (blk_cell B0.out 0).trans rfl
  have B0f0 : w2.frozen? ⟨w.heap.size, 0, none⟩ = false := blk_frozen B0.out 0
  have B0c1 : w2.cell? ⟨w.heap.size, 1, none⟩ = some (.int .i64 0) := (blk_cell B0.out 1).trans rfl
  have B0f1 : w2.frozen? ⟨w.heap.size, 1, none⟩ = false := blk_frozen B0.out 1
  have B0c2 : w2.cell? ⟨w.heap.size, 2, none⟩ = some (.int .i64 0) := (blk_cell B0.out 2).trans rfl
  have B0f2 : w2.frozen? ⟨w.heap.size, 2, none⟩ = false := blk_frozen B0.out 2
  have B0l := blk_lt B0.out
  have B1 := n1_
  have B1c0 : w2.cell? ⟨w.heap.size + 1, 0, none⟩ = some (.int .i64 seg) := (blk_cell B1.out 0).trans rfl
  have B1f0 : w2.frozen? ⟨w.heap.size + 1, 0, none⟩ = false := blk_frozen B1.out 0
  have B1c1 : w2.cell? ⟨w.heap.size + 1, 1, none⟩ = some (.int .i64 mx) := (blk_cell B1.out 1).trans rfl
  have B1f1 : w2.frozen? ⟨w.heap.size + 1, 1, none⟩ = false := blk_frozen B1.out 1
  have B1c2 : w2.cell? ⟨w.heap.size + 1, 2, none⟩ = some (.int .i64 fst) := (blk_cell B1.out 2).trans rfl
  have B1f2 : w2.frozen? ⟨w.heap.size + 1, 2, none⟩ = false := blk_frozen B1.out 2
  have B1c3 : w2.cell? ⟨w.heap.size + 1, 3, none⟩ = some (.int .i64 grain) := (blk_cell B1.out 3).trans rfl
  have B1f3 : w2.frozen? ⟨w.heap.size + 1, 3, none⟩ = false := blk_frozen B1.out 3
  have B1c4 : w2.cell? ⟨w.heap.size + 1, 4, none⟩ = some (.int .i64 lst) := (blk_cell B1.out 4).trans rfl
  have B1f4 : w2.frozen? ⟨w.heap.size + 1, 4, none⟩ = false := blk_frozen B1.out 4
  have B1c5 : w2.cell? ⟨w.heap.size + 1, 5, none⟩ = some (.int .i64 great) := (blk_cell B1.out 5).trans rfl
  have B1f5 : w2.frozen? ⟨w.heap.size + 1, 5, none⟩ = false := blk_frozen B1.out 5
  have B1c6 : w2.cell? ⟨w.heap.size + 1, 6, none⟩ = some (.int .i64 burst) := (blk_cell B1.out 6).trans rfl
  have B1f6 : w2.frozen? ⟨w.heap.size + 1, 6, none⟩ = false := blk_frozen B1.out 6
  have B1l := blk_lt B1.out
  have HB := nb_
  have HBs : w.heap.size ≤ w2.heap.size := HB.out.size
  clear nb_ n0_ n1_
  go_region_held3 (fun w' => w'.cell? ⟨w.heap.size, 0, none⟩ = some (.bool false) ∧ w'.cell? ⟨w.heap.size, 1, none⟩ = some (.int .i64 0) ∧ w'.cell? ⟨w.heap.size, 2, none⟩ = some (.int .i64 0) ∧ w'.cell? ⟨w.heap.size + 1, 0, none⟩ = some (.int .i64 seg) ∧ w'.cell? ⟨w.heap.size + 1, 1, none⟩ = some (.int .i64 mx) ∧ w'.cell? ⟨w.heap.size + 1, 2, none⟩ = some (.int .i64 fst) ∧ w'.cell? ⟨w.heap.size + 1, 3, none⟩ = some (.int .i64 grain) ∧ w'.cell? ⟨w.heap.size + 1, 4, none⟩ = some (.int .i64 lst) ∧ w'.cell? ⟨w.heap.size + 1, 5, none⟩ = some (.int .i64 great) ∧ w'.cell? ⟨w.heap.size + 1, 6, none⟩ = some (.int .i64 burst) ∧ Below w.heap.size w w') (first | assumption | exact ⟨B0c0, B0c1, B0c2, B1c0, B1c1, B1c2, B1c3, B1c4, B1c5, B1c6, below_drew1 HB.out⟩ | exact keep10_0 (by assumption) (by assumption)) (first | (go_at_call 134; refine (D.out _).mono ?_; rintro ev w3 ⟨b, hb0, rfl, hb3⟩) | (go_at_call 121; refine (L.out _).mono ?_; rintro ev w4 ⟨rfl, hb4⟩))
  have hS : w4.cell? ⟨w.heap.size, 0, none⟩ = some (.bool false) ∧ w4.cell? ⟨w.heap.size, 1, none⟩ = some (.int .i64 0) ∧ w4.cell? ⟨w.heap.size, 2, none⟩ = some (.int .i64 0) ∧ w4.cell? ⟨w.heap.size + 1, 0, none⟩ = some (.int .i64 seg) ∧ w4.cell? ⟨w.heap.size + 1, 1, none⟩ = some (.int .i64 mx) ∧ w4.cell? ⟨w.heap.size + 1, 2, none⟩ = some (.int .i64 fst) ∧ w4.cell? ⟨w.heap.size + 1, 3, none⟩ = some (.int .i64 grain) ∧ w4.cell? ⟨w.heap.size + 1, 4, none⟩ = some (.int .i64 lst) ∧ w4.cell? ⟨w.heap.size + 1, 5, none⟩ = some (.int .i64 great) ∧ w4.cell? ⟨w.heap.size + 1, 6, none⟩ = some (.int .i64 burst) ∧ Below w.heap.size w w4 := by assumption
  have hB := Aside0.mk hS.2.2.2.2.2.2.2.2.2.2
  generalize hT : (if great < if b < lst then lst else b then great else if b < lst then lst else b) = t
  have ht : Aside0 (100000 ≤ t) := ⟨by subst hT; split <;> (try split) <;> omega⟩
  clear hT hS
  go_wp2_with fail
  all_goals (go_step3; go_wp2)
  all_goals (go_loopw [8, 23] (fun a_ b_ wx => a_ = .int .i64 t ∧ b_ = .int .i64 0 ∧ Aside0 (Below w.heap.size w wx)) (fun _ _ _ => 0); (case atStart => exact ⟨rfl, rfl, hB⟩); (case round => (obtain ⟨rfl, rfl, hW⟩ := hrel; go_wp2; rw [Exit.noGoto_ret]; go_ret; exact ⟨t, ht.out, rfl, hW.out⟩)))
set_option maxHeartbeats 1600000 in
set_option maxRecDepth 100000 in
theorem rtoOf1.calls (f : Int) (seg mx fst grain lst great burst : Int) (w : World) (h0 : 1 ≤ grain) (h1 : grain ≤ 1000000) (h2 : 1 ≤ lst) (h3 : lst ≤ great) (h4 : 100000 ≤ great) (h5 : great ≤ 1099511627776) (h6 : 0 ≤ f) (h7 : f ≤ 4294967296) :
    Calls Tryz.prog 100 #[.agg #[.bool true, .int .i64 800000, .int .i64 (f)], .agg #[.int .i64 (seg), .int .i64 (mx), .int .i64 (fst), .int .i64 (grain), .int .i64 (lst), .int .i64 (great), .int .i64 (burst)], .int .i64 0] w fun e w' => ∃ t : Int, 100000 ≤ t ∧ e = .returned (.int .i64 (t)) ∧ Below w.heap.size w w' := by
  have K := Aside0.mk (fun W => within.calls great W (by omega) h5)
  have L := Aside0.mk (fun W => within.calls lst W h2 (by omega))
  have D := Aside0.mk (fun W => base1.calls f seg mx fst grain lst great burst W h0 h1 h6 h7)
  go_enter Tryz.func100, Tryz.ntmps100
  go_wp2_with fail
  go_step3
  go_wp2_with (first | (go_at_call 121; refine (K.out _).mono ?_; rintro ev w1 ⟨rfl, hb1⟩; have n0_ := Aside0.mk (blk_below (g := w.heap.size) (o := .cells #[.bool true, .int .i64 800000, .int .i64 f] 28 (0, 0)) (by (repeat (first | (with_reducible refine new_at _ _ _ ?hn; (case hn => first | rfl | (simp; done))) | with_reducible refine blk_alloc ?_ _ | with_reducible refine blk_drewN ?_ _ | with_reducible refine blk_drew ?_ | (with_reducible refine blk_far ?_ ?hb _; (case hb => first | omega | (simp; done) | (simp; omega)))))) hb1); have n1_ := Aside0.mk (blk_below (g := w.heap.size + 1) (o := .cells #[.int .i64 seg, .int .i64 mx, .int .i64 fst, .int .i64 grain, .int .i64 lst, .int .i64 great, .int .i64 burst] 23 (0, 0)) (by (repeat (first | (with_reducible refine new_at _ _ _ ?hn; (case hn => first | rfl | (simp; done))) | with_reducible refine blk_alloc ?_ _ | with_reducible refine blk_drewN ?_ _ | with_reducible refine blk_drew ?_ | (with_reducible refine blk_far ?_ ?hb _; (case hb => first | omega | (simp; done) | (simp; omega)))))) hb1); have nb_ : Aside0 (Below w.heap.size w w1) := ⟨below_step (by (repeat (first | with_reducible exact HB.out | with_reducible exact Below.refl _ _ | with_reducible apply below_alloc | with_reducible apply pw_below_drewN | with_reducible apply below_drew1 | (with_reducible refine below_set ?_ ?hy; (case hy => omega))))) hb1⟩; clear hb1; have B0 := n0_; have B0c0 : w1.cell? ⟨w.heap.size, 0, none⟩ = some (.bool true) := (blk_cell B0.out 0).trans rfl; have B0f0 : w1.frozen? ⟨w.heap.size, 0, none⟩ = false := blk_frozen B0.out 0; have B0c1 : w1.cell? ⟨w.heap.size, 1, none⟩ = some (.int .i64 800000) := (blk_cell B0.out 1).trans rfl; have B0f1 : w1.frozen? ⟨w.heap.size, 1, none⟩ = false := blk_frozen B0.out 1; have B0c2 : w1.cell? ⟨w.heap.size, 2, none⟩ = some (.int .i64 f) := (blk_cell B0.out 2).trans rfl; have B0f2 : w1.frozen? ⟨w.heap.size, 2, none⟩ = false := blk_frozen B0.out 2; have B0l := blk_lt B0.out; have B1 := n1_; have B1c0 : w1.cell? ⟨w.heap.size + 1, 0, none⟩ = some (.int .i64 seg) := (blk_cell B1.out 0).trans rfl; have B1f0 : w1.frozen? ⟨w.heap.size + 1, 0, none⟩ = false := blk_frozen B1.out 0; have B1c1 : w1.cell? ⟨w.heap.size + 1, 1, none⟩ = some (.int .i64 mx) := (blk_cell B1.out 1).trans rfl; have B1f1 : w1.frozen? ⟨w.heap.size + 1, 1, none⟩ = false := blk_frozen B1.out 1; have B1c2 : w1.cell? ⟨w.heap.size + 1, 2, none⟩ = some (.int .i64 fst) := (blk_cell B1.out 2).trans rfl; have B1f2 : w1.frozen? ⟨w.heap.size + 1, 2, none⟩ = false := blk_frozen B1.out 2; have B1c3 : w1.cell? ⟨w.heap.size + 1, 3, none⟩ = some (.int .i64 grain) := (blk_cell B1.out 3).trans rfl; have B1f3 : w1.frozen? ⟨w.heap.size + 1, 3, none⟩ = false := blk_frozen B1.out 3; have B1c4 : w1.cell? ⟨w.heap.size + 1, 4, none⟩ = some (.int .i64 lst) := (blk_cell B1.out 4).trans rfl; have B1f4 : w1.frozen? ⟨w.heap.size + 1, 4, none⟩ = false := blk_frozen B1.out 4; have B1c5 : w1.cell? ⟨w.heap.size + 1, 5, none⟩ = some (.int .i64 great) := (blk_cell B1.out 5).trans rfl; have B1f5 : w1.frozen? ⟨w.heap.size + 1, 5, none⟩ = false := blk_frozen B1.out 5; have B1c6 : w1.cell? ⟨w.heap.size + 1, 6, none⟩ = some (.int .i64 burst) := (blk_cell B1.out 6).trans rfl; have B1f6 : w1.frozen? ⟨w.heap.size + 1, 6, none⟩ = false := blk_frozen B1.out 6; have B1l := blk_lt B1.out; have HB := nb_; have HBs : w.heap.size ≤ w1.heap.size := HB.out.size; clear nb_ n0_ n1_) | fail)
  refine name_world (fun w_ => (w_.heap[w.heap.size]? = some (.cells #[.bool true, .int .i64 800000, .int .i64 f] 28 (0, 0))) ∧ (w_.heap[w.heap.size + 1]? = some (.cells #[.int .i64 seg, .int .i64 mx, .int .i64 fst, .int .i64 grain, .int .i64 lst, .int .i64 great, .int .i64 burst] 23 (0, 0))) ∧ Below w.heap.size w w_) ⟨by (repeat (first | with_reducible exact B0.out | (with_reducible refine new_at _ _ _ ?hn; (case hn => first | rfl | (simp; done))) | with_reducible refine blk_alloc ?_ _ | with_reducible refine blk_drewN ?_ _ | with_reducible refine blk_drew ?_ | (with_reducible refine blk_far ?_ ?hb _; (case hb => first | omega | (simp; done) | (simp; omega))))), by (repeat (first | with_reducible exact B1.out | (with_reducible refine new_at _ _ _ ?hn; (case hn => first | rfl | (simp; done))) | with_reducible refine blk_alloc ?_ _ | with_reducible refine blk_drewN ?_ _ | with_reducible refine blk_drew ?_ | (with_reducible refine blk_far ?_ ?hb _; (case hb => first | omega | (simp; done) | (simp; omega))))), by (repeat (first | with_reducible exact HB.out | with_reducible exact Below.refl _ _ | with_reducible apply below_alloc | with_reducible apply pw_below_drewN | with_reducible apply below_drew1 | (with_reducible refine below_set ?_ ?hy; (case hy => omega))))⟩ ?_
  rintro w2 ⟨n0_, n1_, nb_⟩
  replace n0_ := Aside0.mk n0_
  replace n1_ := Aside0.mk n1_
  replace nb_ := Aside0.mk nb_
  clear B0c0 B0f0 B0c1 B0f1 B0c2 B0f2 B0l B0 B1c0 B1f0 B1c1 B1f1 B1c2 B1f2 B1c3 B1f3 B1c4 B1f4 B1c5 B1f5 B1c6 B1f6 B1l B1 HB HBs
  have B0 := n0_
  have B0c0 : w2.cell? ⟨w.heap.size, 0, none⟩ = some (.bool true) := (blk_cell B0.out 0).trans rfl
  have B0f0 : w2.frozen? ⟨w.heap.size, 0, none⟩ = false := blk_frozen B0.out 0
  have B0c1 : w2.cell? ⟨w.heap.size, 1, none⟩ = some (.int .i64 800000) := (blk_cell B0.out 1).trans rfl
  have B0f1 : w2.frozen? ⟨w.heap.size, 1, none⟩ = false := blk_frozen B0.out 1
  have B0c2 : w2.cell? ⟨w.heap.size, 2, none⟩ = some (.int .i64 f) := (blk_cell B0.out 2).trans rfl
  have B0f2 : w2.frozen? ⟨w.heap.size, 2, none⟩ = false := blk_frozen B0.out 2
  have B0l := blk_lt B0.out
  have B1 := n1_
  have B1c0 : w2.cell? ⟨w.heap.size + 1, 0, none⟩ = some (.int .i64 seg) := (blk_cell B1.out 0).trans rfl
  have B1f0 : w2.frozen? ⟨w.heap.size + 1, 0, none⟩ = false := blk_frozen B1.out 0
  have B1c1 : w2.cell? ⟨w.heap.size + 1, 1, none⟩ = some (.int .i64 mx) := (blk_cell B1.out 1).trans rfl
  have B1f1 : w2.frozen? ⟨w.heap.size + 1, 1, none⟩ = false := blk_frozen B1.out 1
  have B1c2 : w2.cell? ⟨w.heap.size + 1, 2, none⟩ = some (.int .i64 fst) := (blk_cell B1.out 2).trans rfl
  have B1f2 : w2.frozen? ⟨w.heap.size + 1, 2, none⟩ = false := blk_frozen B1.out 2
  have B1c3 : w2.cell? ⟨w.heap.size + 1, 3, none⟩ = some (.int .i64 grain) := (blk_cell B1.out 3).trans rfl
  have B1f3 : w2.frozen? ⟨w.heap.size + 1, 3, none⟩ = false := blk_frozen B1.out 3
  have B1c4 : w2.cell? ⟨w.heap.size + 1, 4, none⟩ = some (.int .i64 lst) := (blk_cell B1.out 4).trans rfl
  have B1f4 : w2.frozen? ⟨w.heap.size + 1, 4, none⟩ = false := blk_frozen B1.out 4
  have B1c5 : w2.cell? ⟨w.heap.size + 1, 5, none⟩ = some (.int .i64 great) := (blk_cell B1.out 5).trans rfl
  have B1f5 : w2.frozen? ⟨w.heap.size + 1, 5, none⟩ = false := blk_frozen B1.out 5
  have B1c6 : w2.cell? ⟨w.heap.size + 1, 6, none⟩ = some (.int .i64 burst) := (blk_cell B1.out 6).trans rfl
  have B1f6 : w2.frozen? ⟨w.heap.size + 1, 6, none⟩ = false := blk_frozen B1.out 6
  have B1l := blk_lt B1.out
  have HB := nb_
  have HBs : w.heap.size ≤ w2.heap.size := HB.out.size
  clear nb_ n0_ n1_
  go_region_held3 (fun w' => w'.cell? ⟨w.heap.size, 0, none⟩ = some (.bool true) ∧ w'.cell? ⟨w.heap.size, 1, none⟩ = some (.int .i64 800000) ∧ w'.cell? ⟨w.heap.size, 2, none⟩ = some (.int .i64 f) ∧ w'.cell? ⟨w.heap.size + 1, 0, none⟩ = some (.int .i64 seg) ∧ w'.cell? ⟨w.heap.size + 1, 1, none⟩ = some (.int .i64 mx) ∧ w'.cell? ⟨w.heap.size + 1, 2, none⟩ = some (.int .i64 fst) ∧ w'.cell? ⟨w.heap.size + 1, 3, none⟩ = some (.int .i64 grain) ∧ w'.cell? ⟨w.heap.size + 1, 4, none⟩ = some (.int .i64 lst) ∧ w'.cell? ⟨w.heap.size + 1, 5, none⟩ = some (.int .i64 great) ∧ w'.cell? ⟨w.heap.size + 1, 6, none⟩ = some (.int .i64 burst) ∧ Below w.heap.size w w') (first | assumption | exact ⟨B0c0, B0c1, B0c2, B1c0, B1c1, B1c2, B1c3, B1c4, B1c5, B1c6, below_drew1 HB.out⟩ | exact keep10_0 (by assumption) (by assumption)) (first | (go_at_call 134; refine (D.out _).mono ?_; rintro ev w3 ⟨b, hb0, rfl, hb3⟩) | (go_at_call 121; refine (L.out _).mono ?_; rintro ev w4 ⟨rfl, hb4⟩))
  have hS : w4.cell? ⟨w.heap.size, 0, none⟩ = some (.bool true) ∧ w4.cell? ⟨w.heap.size, 1, none⟩ = some (.int .i64 800000) ∧ w4.cell? ⟨w.heap.size, 2, none⟩ = some (.int .i64 f) ∧ w4.cell? ⟨w.heap.size + 1, 0, none⟩ = some (.int .i64 seg) ∧ w4.cell? ⟨w.heap.size + 1, 1, none⟩ = some (.int .i64 mx) ∧ w4.cell? ⟨w.heap.size + 1, 2, none⟩ = some (.int .i64 fst) ∧ w4.cell? ⟨w.heap.size + 1, 3, none⟩ = some (.int .i64 grain) ∧ w4.cell? ⟨w.heap.size + 1, 4, none⟩ = some (.int .i64 lst) ∧ w4.cell? ⟨w.heap.size + 1, 5, none⟩ = some (.int .i64 great) ∧ w4.cell? ⟨w.heap.size + 1, 6, none⟩ = some (.int .i64 burst) ∧ Below w.heap.size w w4 := by assumption
  have hB := Aside0.mk hS.2.2.2.2.2.2.2.2.2.2
  generalize hT : (if great < if b < lst then lst else b then great else if b < lst then lst else b) = t
  have ht : Aside0 (100000 ≤ t) := ⟨by subst hT; split <;> (try split) <;> omega⟩
  clear hT hS
  go_wp2_with fail
  all_goals (go_step3; go_wp2)
  all_goals (go_loopw [8, 23] (fun a_ b_ wx => a_ = .int .i64 t ∧ b_ = .int .i64 0 ∧ Aside0 (Below w.heap.size w wx)) (fun _ _ _ => 0); (case atStart => exact ⟨rfl, rfl, hB⟩); (case round => (obtain ⟨rfl, rfl, hW⟩ := hrel; go_wp2; rw [Exit.noGoto_ret]; go_ret; exact ⟨t, ht.out, rfl, hW.out⟩)))

end Go.Proofs.YtpkjdjhojbadhaaGreatDoor.Hp
