/- bucket.Fill, a tenth of a second later: the bucket is full again. -/
import Derived.Test.YtpkjdjhojbadhaaGreatDoorTop4
import Derived.WalkMore
set_option linter.unusedVariables false
set_option linter.unusedSimpArgs false
namespace Go.Proofs.YtpkjdjhojbadhaaGreatDoor.Hp
open Go.RowKit Go.Proofs.YtpkjdjhojbadhaaGreatDoorW.PrintWords Go.Proofs.YtpkjdjhojbadhaaGreatDoorW.PrintLast Go.Proofs.YtpkjdjhojbadhaaGreatDoorW.PrintMore
attribute [local go_sem] max2_int min2_int max_two min_two max_three min_three max_four min_four
set_option maxHeartbeats 1600000 in
set_option maxRecDepth 100000 in
theorem fill1.calls (a m r c : Int) (w : World) (h0 : 0 ≤ a) (h1 : a + 100000 ≤ 1099511627776) (h2 : 0 ≤ m) (h4 : m < c * 1000000) (h5 : 0 ≤ c) (h6 : c ≤ 1000000000) (h7 : c * 1000000 ≤ m + r * 100000) (h8 : 0 ≤ r) (h9 : r ≤ 1000000000) :
    Calls Tryz.prog 21 #[.agg #[.int .i64 (a), .int .i64 (m)], .int .i64 (a + 100000), .int .i64 (r), .int .i64 (c)] w fun e w' => e = .returned (.tuple #[.agg #[.int .i64 (a + 100000), .int .i64 (c * 1000000)], .int .i64 0]) ∧ Below w.heap.size w w' := by
  have hmf : ∀ (fn : Fn) (first cap : Array Value) (w : World), (Instr.makeFunc fn first cap).run Tryz.prog w = .ok (.func fn first cap) w := fun _ _ _ _ => rfl
  have e1 : wrap64 (c * 1000000) = c * 1000000 := wrap64_id _ (by omega) (by omega)
  have e2 : wrap64 (a + 100000 - a) = 100000 := by rw [show a + 100000 - a = 100000 by omega]; exact wrap64_id _ (by omega) (by omega)
  have e3 : IntKind.i64.wrap (a + 100000 - a) = 100000 := by first | (rw [i64_w]; exact e2) | (rw [← i64_w]; exact e2)
  have c0 : decide (a ≥ 0) = true := decide_eq_true h0
  have c1 : decide (a ≤ 1099511627776) = true := decide_eq_true (by omega)
  have c2 : decide (a + 100000 ≥ 0) = true := decide_eq_true (by omega)
  have c22 : decide (a + 100000 ≤ 1099511627776) = true := decide_eq_true (by omega)
  have c3 : decide (m ≥ 0) = true := decide_eq_true (by omega)
  have c4 : decide (m ≤ 1152921504606846976) = true := decide_eq_true (by omega)
  have c5 : decide (m < c * 1000000) = true := decide_eq_true (by omega)
  have c6 : decide (c < 0) = false := decide_eq_false (by omega)
  have c7 : decide (1099511627776 < c) = false := decide_eq_false (by omega)
  have c8 : decide (a + 100000 < a) = false := decide_eq_false (by omega)
  have hmin : (if c * 1000000 < m + r * 100000 then c * 1000000 else m + r * 100000) = c * 1000000 := by split <;> omega
  have M := Aside0.mk (fun W => mul.calls r 100000 W h8 (by omega) (by omega))
  have S := Aside0.mk (fun W => add.calls m (r * 100000) W h2 (by omega) (by omega))
  go_enter Tryz.func21, Tryz.ntmps21
  go_wp2
  go_step3
  go_wp2
  refine name_world (fun w_ => (w_.heap[w.heap.size]? = some (.cells #[.int .i64 a, .int .i64 m] 37 (0, 0))) ∧ (w_.heap[w.heap.size + 1]? = some (.cells #[.int .i64 0, .int .i64 0] 37 (0, 0))) ∧ (w_.heap[w.heap.size + 1 + 1]? = some (.cells #[.int .i64 (a + 100000), .int .i64 m] 37 (0, 0))) ∧ Below w.heap.size w w_) ⟨by (repeat (first | (with_reducible refine new_at _ _ _ ?hn; (case hn => first | rfl | (simp; done))) | with_reducible refine blk_alloc ?_ _ | with_reducible refine blk_drewN ?_ _ | with_reducible refine blk_drew ?_ | (with_reducible refine blk_far ?_ ?hb _; (case hb => first | omega | (simp; done) | (simp; omega))))), by (repeat (first | (with_reducible refine new_at _ _ _ ?hn; (case hn => first | rfl | (simp; done))) | with_reducible refine blk_alloc ?_ _ | with_reducible refine blk_drewN ?_ _ | with_reducible refine blk_drew ?_ | (with_reducible refine blk_far ?_ ?hb _; (case hb => first | omega | (simp; done) | (simp; omega))))), by (repeat (first | (with_reducible refine new_at _ _ _ ?hn; (case hn => first | rfl | (simp; done))) | with_reducible refine blk_alloc ?_ _ | with_reducible refine blk_drewN ?_ _ | with_reducible refine blk_drew ?_ | (with_reducible refine blk_far ?_ ?hb _; (case hb => first | omega | (simp; done) | (simp; omega))))), by (repeat (first | with_reducible exact HB.out | with_reducible exact Below.refl _ _ | with_reducible apply below_alloc | with_reducible apply pw_below_drewN | with_reducible apply below_drew1 | (with_reducible refine below_set ?_ ?hy; (case hy => omega))))⟩ ?_
  rintro w1 ⟨n0_, n1_, n2_, nb_⟩
  replace n0_ := Aside0.mk n0_
  replace n1_ := Aside0.mk n1_
  replace n2_ := Aside0.mk n2_
  replace nb_ := Aside0.mk nb_
  have B0 := n0_
  have B0c0 : w1.cell? ⟨w.heap.size, 0, none⟩ = some (.int .i64 a) := (blk_cell B0.out 0).trans rfl
  have B0f0 : w1.frozen? ⟨w.heap.size, 0, none⟩ = false := blk_frozen B0.out 0
  have B0c1 : w1.cell? ⟨w.heap.size, 1, none⟩ = some (.int .i64 m) := (blk_cell B0.out 1).trans rfl
  have B0f1 : w1.frozen? ⟨w.heap.size, 1, none⟩ = false := blk_frozen B0.out 1
  have B0l := blk_lt B0.out
  have B1 := n1_
  have B1c0 : w1.cell? ⟨w.heap.size + 1, 0, none⟩ = some (.int .i64 0) := (blk_cell B1.out 0).trans rfl
  have B1f0 : w1.frozen? ⟨w.heap.size + 1, 0, none⟩ = false := blk_frozen B1.out 0
  have B1c1 : w1.cell? ⟨w.heap.size + 1, 1, none⟩ = some (.int .i64 0) := (blk_cell B1.out 1).trans rfl
  have B1f1 : w1.frozen? ⟨w.heap.size + 1, 1, none⟩ = false := blk_frozen B1.out 1
  have B1l := blk_lt B1.out
  have B2 := n2_
  have B2c0 : w1.cell? ⟨w.heap.size + 1 + 1, 0, none⟩ = some (.int .i64 (a + 100000)) := (blk_cell B2.out 0).trans rfl
  have B2f0 : w1.frozen? ⟨w.heap.size + 1 + 1, 0, none⟩ = false := blk_frozen B2.out 0
  have B2c1 : w1.cell? ⟨w.heap.size + 1 + 1, 1, none⟩ = some (.int .i64 m) := (blk_cell B2.out 1).trans rfl
  have B2f1 : w1.frozen? ⟨w.heap.size + 1 + 1, 1, none⟩ = false := blk_frozen B2.out 1
  have B2l := blk_lt B2.out
  have HB := nb_
  have HBs : w.heap.size ≤ w1.heap.size := HB.out.size
  clear nb_ n0_ n1_ n2_
  go_cut [46] (fun v wx => Aside0 (wx.heap[w.heap.size + 1]? = some (.cells #[.int .i64 0, .int .i64 0] 37 (0, 0))) ∧ Aside0 (wx.heap[w.heap.size + 1 + 1]? = some (.cells #[.int .i64 (a + 100000), .int .i64 (c * 1000000)] 37 (0, 0))) ∧ Aside0 (Below w.heap.size w wx))
  case first =>
    go_region_with (first | (go_at_call 48; go_in) | (go_at_call 90; go_in) | (go_at_call 50; refine (M.out _).mono ?_; rintro ev w2 ⟨rfl, hb2⟩; have n0_ := Aside0.mk (blk_below (g := w.heap.size) (o := .cells #[.int .i64 a, .int .i64 m] 37 (0, 0)) (by (repeat (first | with_reducible exact B0.out | (with_reducible refine new_at _ _ _ ?hn; (case hn => first | rfl | (simp; done))) | with_reducible refine blk_alloc ?_ _ | with_reducible refine blk_drewN ?_ _ | with_reducible refine blk_drew ?_ | (with_reducible refine blk_far ?_ ?hb _; (case hb => first | omega | (simp; done) | (simp; omega)))))) hb2); have n1_ := Aside0.mk (blk_below (g := w.heap.size + 1) (o := .cells #[.int .i64 0, .int .i64 0] 37 (0, 0)) (by (repeat (first | with_reducible exact B1.out | (with_reducible refine new_at _ _ _ ?hn; (case hn => first | rfl | (simp; done))) | with_reducible refine blk_alloc ?_ _ | with_reducible refine blk_drewN ?_ _ | with_reducible refine blk_drew ?_ | (with_reducible refine blk_far ?_ ?hb _; (case hb => first | omega | (simp; done) | (simp; omega)))))) hb2); have n2_ := Aside0.mk (blk_below (g := w.heap.size + 1 + 1) (o := .cells #[.int .i64 (a + 100000), .int .i64 m] 37 (0, 0)) (by (repeat (first | with_reducible exact B2.out | (with_reducible refine new_at _ _ _ ?hn; (case hn => first | rfl | (simp; done))) | with_reducible refine blk_alloc ?_ _ | with_reducible refine blk_drewN ?_ _ | with_reducible refine blk_drew ?_ | (with_reducible refine blk_far ?_ ?hb _; (case hb => first | omega | (simp; done) | (simp; omega)))))) hb2); have nb_ : Aside0 (Below w.heap.size w w2) := ⟨below_step (by (repeat (first | with_reducible exact HB.out | with_reducible exact Below.refl _ _ | with_reducible apply below_alloc | with_reducible apply pw_below_drewN | with_reducible apply below_drew1 | (with_reducible refine below_set ?_ ?hy; (case hy => omega))))) hb2⟩; clear B0c0 B0f0 B0c1 B0f1 B0l B0 B1c0 B1f0 B1c1 B1f1 B1l B1 B2c0 B2f0 B2c1 B2f1 B2l B2 HB HBs; clear hb2; have B0 := n0_; have B0c0 : w2.cell? ⟨w.heap.size, 0, none⟩ = some (.int .i64 a) := (blk_cell B0.out 0).trans rfl; have B0f0 : w2.frozen? ⟨w.heap.size, 0, none⟩ = false := blk_frozen B0.out 0; have B0c1 : w2.cell? ⟨w.heap.size, 1, none⟩ = some (.int .i64 m) := (blk_cell B0.out 1).trans rfl; have B0f1 : w2.frozen? ⟨w.heap.size, 1, none⟩ = false := blk_frozen B0.out 1; have B0l := blk_lt B0.out; have B1 := n1_; have B1c0 : w2.cell? ⟨w.heap.size + 1, 0, none⟩ = some (.int .i64 0) := (blk_cell B1.out 0).trans rfl; have B1f0 : w2.frozen? ⟨w.heap.size + 1, 0, none⟩ = false := blk_frozen B1.out 0; have B1c1 : w2.cell? ⟨w.heap.size + 1, 1, none⟩ = some (.int .i64 0) := (blk_cell B1.out 1).trans rfl; have B1f1 : w2.frozen? ⟨w.heap.size + 1, 1, none⟩ = false := blk_frozen B1.out 1; have B1l := blk_lt B1.out; have B2 := n2_; have B2c0 : w2.cell? ⟨w.heap.size + 1 + 1, 0, none⟩ = some (.int .i64 (a + 100000)) := (blk_cell B2.out 0).trans rfl; have B2f0 : w2.frozen? ⟨w.heap.size + 1 + 1, 0, none⟩ = false := blk_frozen B2.out 0; have B2c1 : w2.cell? ⟨w.heap.size + 1 + 1, 1, none⟩ = some (.int .i64 m) := (blk_cell B2.out 1).trans rfl; have B2f1 : w2.frozen? ⟨w.heap.size + 1 + 1, 1, none⟩ = false := blk_frozen B2.out 1; have B2l := blk_lt B2.out; have HB := nb_; have HBs : w.heap.size ≤ w2.heap.size := HB.out.size; clear nb_ n0_ n1_ n2_) | (go_at_call 49; refine (S.out _).mono ?_; rintro ev w3 ⟨rfl, hb3⟩; have n0_ := Aside0.mk (blk_below (g := w.heap.size) (o := .cells #[.int .i64 a, .int .i64 m] 37 (0, 0)) (by (repeat (first | with_reducible exact B0.out | (with_reducible refine new_at _ _ _ ?hn; (case hn => first | rfl | (simp; done))) | with_reducible refine blk_alloc ?_ _ | with_reducible refine blk_drewN ?_ _ | with_reducible refine blk_drew ?_ | (with_reducible refine blk_far ?_ ?hb _; (case hb => first | omega | (simp; done) | (simp; omega)))))) hb3); have n1_ := Aside0.mk (blk_below (g := w.heap.size + 1) (o := .cells #[.int .i64 0, .int .i64 0] 37 (0, 0)) (by (repeat (first | with_reducible exact B1.out | (with_reducible refine new_at _ _ _ ?hn; (case hn => first | rfl | (simp; done))) | with_reducible refine blk_alloc ?_ _ | with_reducible refine blk_drewN ?_ _ | with_reducible refine blk_drew ?_ | (with_reducible refine blk_far ?_ ?hb _; (case hb => first | omega | (simp; done) | (simp; omega)))))) hb3); have n2_ := Aside0.mk (blk_below (g := w.heap.size + 1 + 1) (o := .cells #[.int .i64 (a + 100000), .int .i64 m] 37 (0, 0)) (by (repeat (first | with_reducible exact B2.out | (with_reducible refine new_at _ _ _ ?hn; (case hn => first | rfl | (simp; done))) | with_reducible refine blk_alloc ?_ _ | with_reducible refine blk_drewN ?_ _ | with_reducible refine blk_drew ?_ | (with_reducible refine blk_far ?_ ?hb _; (case hb => first | omega | (simp; done) | (simp; omega)))))) hb3); have nb_ : Aside0 (Below w.heap.size w w3) := ⟨below_step (by (repeat (first | with_reducible exact HB.out | with_reducible exact Below.refl _ _ | with_reducible apply below_alloc | with_reducible apply pw_below_drewN | with_reducible apply below_drew1 | (with_reducible refine below_set ?_ ?hy; (case hy => omega))))) hb3⟩; clear B0c0 B0f0 B0c1 B0f1 B0l B0 B1c0 B1f0 B1c1 B1f1 B1l B1 B2c0 B2f0 B2c1 B2f1 B2l B2 HB HBs; clear hb3; have B0 := n0_; have B0c0 : w3.cell? ⟨w.heap.size, 0, none⟩ = some (.int .i64 a) := (blk_cell B0.out 0).trans rfl; have B0f0 : w3.frozen? ⟨w.heap.size, 0, none⟩ = false := blk_frozen B0.out 0; have B0c1 : w3.cell? ⟨w.heap.size, 1, none⟩ = some (.int .i64 m) := (blk_cell B0.out 1).trans rfl; have B0f1 : w3.frozen? ⟨w.heap.size, 1, none⟩ = false := blk_frozen B0.out 1; have B0l := blk_lt B0.out; have B1 := n1_; have B1c0 : w3.cell? ⟨w.heap.size + 1, 0, none⟩ = some (.int .i64 0) := (blk_cell B1.out 0).trans rfl; have B1f0 : w3.frozen? ⟨w.heap.size + 1, 0, none⟩ = false := blk_frozen B1.out 0; have B1c1 : w3.cell? ⟨w.heap.size + 1, 1, none⟩ = some (.int .i64 0) := (blk_cell B1.out 1).trans rfl; have B1f1 : w3.frozen? ⟨w.heap.size + 1, 1, none⟩ = false := blk_frozen B1.out 1; have B1l := blk_lt B1.out; have B2 := n2_; have B2c0 : w3.cell? ⟨w.heap.size + 1 + 1, 0, none⟩ = some (.int .i64 (a + 100000)) := (blk_cell B2.out 0).trans rfl; have B2f0 : w3.frozen? ⟨w.heap.size + 1 + 1, 0, none⟩ = false := blk_frozen B2.out 0; have B2c1 : w3.cell? ⟨w.heap.size + 1 + 1, 1, none⟩ = some (.int .i64 m) := (blk_cell B2.out 1).trans rfl; have B2f1 : w3.frozen? ⟨w.heap.size + 1 + 1, 1, none⟩ = false := blk_frozen B2.out 1; have B2l := blk_lt B2.out; have HB := nb_; have HBs : w.heap.size ≤ w3.heap.size := HB.out.size; clear nb_ n0_ n1_ n2_))
    all_goals go_wp2
    all_goals go_meet
    all_goals exact ⟨⟨(by (repeat (first | with_reducible exact B1.out | (with_reducible refine new_at _ _ _ ?hn; (case hn => first | rfl | (simp; done))) | with_reducible refine blk_alloc ?_ _ | with_reducible refine blk_drewN ?_ _ | with_reducible refine blk_drew ?_ | (with_reducible refine blk_far ?_ ?hb _; (case hb => first | omega | (simp; done) | (simp; omega))))))⟩, ⟨(by (repeat (first | with_reducible refine blk_alloc ?_ _ | with_reducible refine blk_drewN ?_ _ | with_reducible refine blk_drew ?_ | (with_reducible refine blk_far ?_ ?hb _; (case hb => first | omega | (simp; done) | (simp; omega))))); refine blk_put (cs := #[.int .i64 (a + 100000), .int .i64 m]) (cs' := #[.int .i64 (a + 100000), .int .i64 (c * 1000000)]) ?_ 1 (.int .i64 (c * 1000000)) rfl; (repeat (first | with_reducible exact B2.out | (with_reducible refine new_at _ _ _ ?hn; (case hn => first | rfl | (simp; done))) | with_reducible refine blk_alloc ?_ _ | with_reducible refine blk_drewN ?_ _ | with_reducible refine blk_drew ?_ | (with_reducible refine blk_far ?_ ?hb _; (case hb => first | omega | (simp; done) | (simp; omega))))))⟩, ⟨(by (repeat (first | with_reducible exact HB.out | with_reducible exact Below.refl _ _ | with_reducible apply below_alloc | with_reducible apply pw_below_drewN | with_reducible apply below_drew1 | (with_reducible refine below_set ?_ ?hy; (case hy => omega)))))⟩⟩
  case rest =>
    obtain ⟨B1, B2, HB⟩ := hcut
    have B1c0 : wc.cell? ⟨w.heap.size + 1, 0, none⟩ = some (.int .i64 0) := (blk_cell B1.out 0).trans rfl
    have B1f0 : wc.frozen? ⟨w.heap.size + 1, 0, none⟩ = false := blk_frozen B1.out 0
    have B1c1 : wc.cell? ⟨w.heap.size + 1, 1, none⟩ = some (.int .i64 0) := (blk_cell B1.out 1).trans rfl
    have B1f1 : wc.frozen? ⟨w.heap.size + 1, 1, none⟩ = false := blk_frozen B1.out 1
    have B1l := blk_lt B1.out
    have B2c0 : wc.cell? ⟨w.heap.size + 1 + 1, 0, none⟩ = some (.int .i64 (a + 100000)) := (blk_cell B2.out 0).trans rfl
    have B2f0 : wc.frozen? ⟨w.heap.size + 1 + 1, 0, none⟩ = false := blk_frozen B2.out 0
    have B2c1 : wc.cell? ⟨w.heap.size + 1 + 1, 1, none⟩ = some (.int .i64 (c * 1000000)) := (blk_cell B2.out 1).trans rfl
    have B2f1 : wc.frozen? ⟨w.heap.size + 1 + 1, 1, none⟩ = false := blk_frozen B2.out 1
    have B2l := blk_lt B2.out
    go_wp2
    go_step3
    go_wp2
    rw [Exit.noGoto_ret]
    refine bodyPost_ret (results_ct rfl _ _ (w.heap.size + 1) 37 #[.int .i64 (a + 100000), .int .i64 (c * 1000000)] (0, 0) _ rfl (by (repeat (first | with_reducible refine blk_alloc ?_ _ | with_reducible refine blk_drewN ?_ _ | with_reducible refine blk_drew ?_ | (with_reducible refine blk_far ?_ ?hb _; (case hb => first | omega | (simp; done) | (simp; omega))))); refine blk_put (cs := #[.int .i64 (a + 100000), .int .i64 0]) (cs' := #[.int .i64 (a + 100000), .int .i64 (c * 1000000)]) ?_ 1 (.int .i64 (c * 1000000)) rfl; (repeat (first | with_reducible refine blk_alloc ?_ _ | with_reducible refine blk_drewN ?_ _ | with_reducible refine blk_drew ?_ | (with_reducible refine blk_far ?_ ?hb _; (case hb => first | omega | (simp; done) | (simp; omega))))); refine blk_put (cs := #[.int .i64 0, .int .i64 0]) (cs' := #[.int .i64 (a + 100000), .int .i64 0]) ?_ 0 (.int .i64 (a + 100000)) rfl; (repeat (first | with_reducible exact B1.out | (with_reducible refine new_at _ _ _ ?hn; (case hn => first | rfl | (simp; done))) | with_reducible refine blk_alloc ?_ _ | with_reducible refine blk_drewN ?_ _ | with_reducible refine blk_drew ?_ | (with_reducible refine blk_far ?_ ?hb _; (case hb => first | omega | (simp; done) | (simp; omega)))))) Tryz.underlying37 rfl (by kernel_rfl)) rfl ⟨rfl, ?_⟩
    exact (by (repeat (first | with_reducible exact HB.out | with_reducible exact Below.refl _ _ | with_reducible apply below_alloc | with_reducible apply pw_below_drewN | with_reducible apply below_drew1 | (with_reducible refine below_set ?_ ?hy; (case hy => omega)))))

end Go.Proofs.YtpkjdjhojbadhaaGreatDoor.Hp
