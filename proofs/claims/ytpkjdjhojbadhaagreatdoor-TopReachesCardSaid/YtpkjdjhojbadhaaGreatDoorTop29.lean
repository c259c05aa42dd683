/- TopReaches answers true, whatever its input: the window never falls, and reaches the greatest one. -/
import Derived.Test.YtpkjdjhojbadhaaGreatDoorTop28
set_option linter.unusedVariables false
set_option linter.unusedSimpArgs false
namespace Go.Proofs.YtpkjdjhojbadhaaGreatDoor.Hp
open Go.RowKit Go.Proofs.YtpkjdjhojbadhaaGreatDoorW.PrintWords Go.Proofs.YtpkjdjhojbadhaaGreatDoorW.PrintLast Go.Proofs.YtpkjdjhojbadhaaGreatDoorW.PrintMore
attribute [local go_sem] max2_int min2_int max_two min_two max_three min_three max_four min_four
/-- The window ahead of turn k, in segments. -/
def winAt (fst mx : Int) : Nat → Int
  | 0 => fst
  | k + 1 => nxt (winAt fst mx k) mx
theorem winAt_bounds {fst mx : Int} (h2 : 2 ≤ fst) (h3 : fst ≤ mx) : ∀ k, 2 ≤ winAt fst mx k ∧ winAt fst mx k ≤ mx
  | 0 => ⟨h2, h3⟩
  | k + 1 => by
    obtain ⟨a, b⟩ := winAt_bounds h2 h3 k
    obtain ⟨c, d⟩ := nxt_bounds a b
    exact ⟨by show 2 ≤ nxt _ _; omega, d⟩
theorem nxt_grows {kk mx : Int} (h2 : 2 ≤ kk) (h3 : kk ≤ mx) : nxt kk mx = mx ∨ (kk ≤ 8 ∧ nxt kk mx = 2 * kk) ∨ (8 < kk ∧ nxt kk mx = kk + 8) := by
  unfold nxt
  split <;> split <;> omega
theorem winAt_low {fst mx : Int} (h2 : 2 ≤ fst) (h3 : fst ≤ mx) : ∀ k : Nat, winAt fst mx (k + 2) = mx ∨ 8 * (k : Int) + 8 ≤ winAt fst mx (k + 2)
  | 0 => by
    obtain ⟨a0, b0⟩ := winAt_bounds h2 h3 0
    obtain ⟨a1, b1⟩ := winAt_bounds h2 h3 1
    have e0 := nxt_grows a0 b0
    have e1 := nxt_grows a1 b1
    have c0 := nxt_bounds a0 b0
    have c1 := nxt_bounds a1 b1
    have f0 : winAt fst mx 1 = nxt (winAt fst mx 0) mx := rfl
    have f1 : winAt fst mx (0 + 2) = nxt (winAt fst mx 1) mx := rfl
    omega
  | k + 1 => by
    obtain ⟨a1, b1⟩ := winAt_bounds h2 h3 (k + 2)
    have e1 := nxt_grows a1 b1
    have ih := winAt_low h2 h3 k
    have f1 : winAt fst mx (k + 1 + 2) = nxt (winAt fst mx (k + 2)) mx := rfl
    have c := nxt_bounds a1 b1
    omega
theorem winAt_top {fst mx : Int} (h2 : 2 ≤ fst) (h3 : fst ≤ mx) (h4 : mx ≤ 1000) (k : Nat) (hk : 140 ≤ k) : winAt fst mx k = mx := by
  obtain ⟨j, rfl⟩ : ∃ j, k = j + 2 := ⟨k - 2, by omega⟩
  have a := winAt_low h2 h3 j
  have b := winAt_bounds h2 h3 (j + 2)
  omega
/-- What TopReaches has made of its own ahead of the loop. -/
structure TopF (w W : World) (cf : Array Value) : Prop where
  b0 : W.heap[w.heap.size]? = some (.cells cf 23 (0, 0))
  hb : Below w.heap.size w W
section
variable {w W W' : World} {cf : Array Value}
theorem TopF.below (h : TopF w W cf) (k : Below W.heap.size W W') : TopF w W' cf := ⟨blk_below h.b0 k, below_step h.hb k⟩
theorem TopF.alloc (h : TopF w W cf) (o : Obj) : TopF w (W.alloc o) cf := h.below (below_alloc (Below.refl _ _) _)
theorem TopF.row (h : TopF w W cf) {g : Nat} (hg : w.heap.size < g) (c : Array Value) : TopF w (W.setRow g c) cf := ⟨blk_row h.b0 (by omega) c, below_row h.hb (by omega) c⟩
theorem TopF.lt (h : TopF w W cf) : w.heap.size < W.heap.size := blk_lt h.b0
end
set_option maxHeartbeats 1600000 in
set_option maxRecDepth 100000 in
theorem topBad.calls (seg mx fst grain lst great burst : Int) (more : Int) (w : World) (hok : ¬ okCfg seg mx fst grain lst great burst) :
    Calls Tryz.prog 3 #[.agg #[.int .i64 (seg), .int .i64 (mx), .int .i64 (fst), .int .i64 (grain), .int .i64 (lst), .int .i64 (great), .int .i64 (burst)], .int .u8 more] w fun e w' => e = .returned (.bool true) ∧ Below w.heap.size w w' := by
  have NE := Aside0.mk (fun W => newE.calls seg mx fst grain lst great burst W hok)
  clear hok
  go_enter Tryz.func3, Tryz.ntmps3
  go_upto_region 1 with (fail)
  refine name_world (fun W => TopF w W #[.int .i64 (seg), .int .i64 (mx), .int .i64 (fst), .int .i64 (grain), .int .i64 (lst), .int .i64 (great), .int .i64 (burst)]) ⟨by (repeat (first | (with_reducible refine new_at _ _ _ ?hn; (case hn => first | rfl | (simp; done))) | with_reducible refine blk_alloc ?_ _ | with_reducible refine blk_drewN ?_ _ | with_reducible refine blk_drew ?_ | (with_reducible refine blk_far ?_ ?hb _; (case hb => first | omega | (simp; done) | (simp; omega))))), by (repeat (first | with_reducible exact HB.out | with_reducible exact Below.refl _ _ | with_reducible apply below_alloc | with_reducible apply pw_below_drewN | with_reducible apply below_drew1 | (with_reducible refine below_set ?_ ?hy; (case hy => omega))))⟩ ?_
  intro w1 F
  replace F := Aside0.mk F
  go_upto_region 2 with (first | ((with_reducible refine (awake.calls _).mono ?_); rintro e_ w2 ⟨rfl, hq⟩; have F' := Aside0.mk (F.out.below hq); clear F hq; have F := F'; clear F') | fail)
  go_upto_region 3 with (first | ((with_reducible refine gate_dst (N := 14) rfl ?_); refine wpList_load_row rfl 23 (.tmp 2) rfl (w.heap.size) rfl 23 #[.int .i64 (seg), .int .i64 (mx), .int .i64 (fst), .int .i64 (grain), .int .i64 (lst), .int .i64 (great), .int .i64 (burst)] (0, 0) _ F.out.b0 Tryz.underlying23 rfl (by kernel_rfl) ?_) | ((with_reducible refine (NE.out _).mono ?_); rintro e_ w3 ⟨rfl, hq⟩; have F' := Aside0.mk (F.out.below hq); clear F hq; have F := F'; clear F') | ((with_reducible refine gate_store (t := 39) (p := 6) rfl ?_); refine wpList_store_row rfl 39 (.tmp 6) (.tmp 16) rfl (w3.heap.size) zs39 rfl rfl 39 zs39 (by unfold zs39; exact blk_new _ _) (by kernel_rfl) rfl (by unfold zs39; simp [Value.oneCell']) ?_) | fail)
  refine name_world (fun W => TopF w W #[.int .i64 (seg), .int .i64 (mx), .int .i64 (fst), .int .i64 (grain), .int .i64 (lst), .int .i64 (great), .int .i64 (burst)]) ((F.out.alloc _).row F.out.lt _) ?_
  clear F
  intro w4 F
  replace F := Aside0.mk F
  go_wp2
  go_ret
  exact ⟨rfl, F.out.hb⟩
set_option maxHeartbeats 1600000 in
set_option maxRecDepth 100000 in
theorem topBad2.calls (seg mx fst grain lst great burst : Int) (more : Int) (w : World) (hok : okCfg seg mx fst grain lst great burst) (hb : burst < mx ∨ (mx ≤ burst ∧ great < 100000)) :
    Calls Tryz.prog 3 #[.agg #[.int .i64 (seg), .int .i64 (mx), .int .i64 (fst), .int .i64 (grain), .int .i64 (lst), .int .i64 (great), .int .i64 (burst)], .int .u8 more] w fun e w' => e = .returned (.bool true) ∧ Below w.heap.size w w' := by
  have NW := Aside0.mk (fun W => newG.calls seg mx fst grain lst great burst W hok)
  clear hok
  go_enter Tryz.func3, Tryz.ntmps3
  go_upto_region 1 with (fail)
  refine name_world (fun W => TopF w W #[.int .i64 (seg), .int .i64 (mx), .int .i64 (fst), .int .i64 (grain), .int .i64 (lst), .int .i64 (great), .int .i64 (burst)]) ⟨by (repeat (first | (with_reducible refine new_at _ _ _ ?hn; (case hn => first | rfl | (simp; done))) | with_reducible refine blk_alloc ?_ _ | with_reducible refine blk_drewN ?_ _ | with_reducible refine blk_drew ?_ | (with_reducible refine blk_far ?_ ?hb _; (case hb => first | omega | (simp; done) | (simp; omega))))), by (repeat (first | with_reducible exact HB.out | with_reducible exact Below.refl _ _ | with_reducible apply below_alloc | with_reducible apply pw_below_drewN | with_reducible apply below_drew1 | (with_reducible refine below_set ?_ ?hy; (case hy => omega))))⟩ ?_
  intro w1 F
  replace F := Aside0.mk F
  go_upto_region 2 with (first | ((with_reducible refine (awake.calls _).mono ?_); rintro e_ w2 ⟨rfl, hq⟩; have F' := Aside0.mk (F.out.below hq); clear F hq; have F := F'; clear F') | fail)
  go_upto_region 3 with (first | ((with_reducible refine gate_dst (N := 14) rfl ?_); refine wpList_load_row rfl 23 (.tmp 2) rfl (w.heap.size) rfl 23 #[.int .i64 (seg), .int .i64 (mx), .int .i64 (fst), .int .i64 (grain), .int .i64 (lst), .int .i64 (great), .int .i64 (burst)] (0, 0) _ F.out.b0 Tryz.underlying23 rfl (by kernel_rfl) ?_) | ((with_reducible refine (NW.out _).mono ?_); rintro e_ w3 ⟨cs, rfl, hg, hq⟩; have F' := Aside0.mk (F.out.below hq); clear F hq; have F := F'; clear F'; have SZ := Aside0.mk (show (Tryz.prog.info? 39).map (·.size) = some cs.size from by rw [hg.size]; kernel_rfl); have SQ := Aside0.mk (show zs39.size = cs.size from by rw [hg.size]; rfl); have GO := Aside0.mk hg; clear hg) | ((with_reducible refine gate_store (t := 39) (p := 6) rfl ?_); refine wpList_store_row rfl 39 (.tmp 6) (.tmp 16) rfl (w3.heap.size) cs rfl rfl 39 zs39 (by unfold zs39; exact blk_new _ _) SZ.out SQ.out GO.out.one ?_) | fail)
  refine name_world (fun W => TopF w W #[.int .i64 (seg), .int .i64 (mx), .int .i64 (fst), .int .i64 (grain), .int .i64 (lst), .int .i64 (great), .int .i64 (burst)]) ((F.out.alloc _).row F.out.lt _) ?_
  clear F GO SZ SQ NW
  intro w4 F
  have c6 : w4.cell? ⟨w.heap.size, 6, none⟩ = some (.int .i64 burst) := (blk_cell F.b0 6).trans rfl
  have c1 : w4.cell? ⟨w.heap.size, 1, none⟩ = some (.int .i64 mx) := (blk_cell F.b0 1).trans rfl
  have c5 : w4.cell? ⟨w.heap.size, 5, none⟩ = some (.int .i64 great) := (blk_cell F.b0 5).trans rfl
  replace F := Aside0.mk F
  rcases hb with hb | ⟨hb, hb2⟩
  · have d1 : decide (burst < mx) = true := decide_eq_true hb
    go_wp2
    go_ret
    exact ⟨rfl, F.out.hb⟩
  · have d1 : decide (burst < mx) = false := decide_eq_false (by omega)
    have d2 : decide (great < 100000) = true := decide_eq_true hb2
    go_wp2
    go_ret
    exact ⟨rfl, F.out.hb⟩
/-- At the head of round k: the connection lies in block g. -/
structure TopR (w W : World) (seg mx fst grain lst great burst : Int) (g k : Nat) : Prop where
  f : TopF w W #[.int .i64 (seg), .int .i64 (mx), .int .i64 (fst), .int .i64 (grain), .int .i64 (lst), .int .i64 (great), .int .i64 (burst)]
  hg : w.heap.size < g
  ex : ∃ cs sent, W.heap[g]? = some (.cells cs 39 (0, 0)) ∧ Good W seg mx fst grain lst great burst (winAt fst mx k) ((k : Int) * 100000) sent cs ∧ 0 ≤ sent ∧ sent ≤ (k : Int) * 9000000
theorem Good.cap {W : World} {seg mx fst grain lst great burst kk a sent : Int} {cs : Array Value} (h : Good W seg mx fst grain lst great burst kk a sent cs) : cs[1]? = some (.int .i64 mx) := by
  obtain ⟨last, has, mean, far, id, en, hl, p, sn, sc, o, rfl, _⟩ := h.ex
  rfl
set_option maxHeartbeats 1600000 in
set_option maxRecDepth 100000 in
theorem topGood.calls (seg mx fst grain lst great burst : Int) (more : Int) (w : World) (hok : okCfg seg mx fst grain lst great burst) (hmb : mx ≤ burst) (hgr : 100000 ≤ great) (u0 : 0 ≤ more) (u1 : more ≤ 255) :
    Calls Tryz.prog 3 #[.agg #[.int .i64 (seg), .int .i64 (mx), .int .i64 (fst), .int .i64 (grain), .int .i64 (lst), .int .i64 (great), .int .i64 (burst)], .int .u8 more] w fun e w' => e = .returned (.bool true) ∧ Below w.heap.size w w' := by
  have NW := Aside0.mk (fun W => newG.calls seg mx fst grain lst great burst W hok)
  have d1 : decide (burst < mx) = false := decide_eq_false (by omega)
  have d2 : decide (great < 100000) = false := decide_eq_false (by omega)
  have OK := Aside0.mk hok
  clear hok
  go_enter Tryz.func3, Tryz.ntmps3
  go_upto_region 1 with (fail)
  refine name_world (fun W => TopF w W #[.int .i64 (seg), .int .i64 (mx), .int .i64 (fst), .int .i64 (grain), .int .i64 (lst), .int .i64 (great), .int .i64 (burst)]) ⟨by (repeat (first | (with_reducible refine new_at _ _ _ ?hn; (case hn => first | rfl | (simp; done))) | with_reducible refine blk_alloc ?_ _ | with_reducible refine blk_drewN ?_ _ | with_reducible refine blk_drew ?_ | (with_reducible refine blk_far ?_ ?hb _; (case hb => first | omega | (simp; done) | (simp; omega))))), by (repeat (first | with_reducible exact HB.out | with_reducible exact Below.refl _ _ | with_reducible apply below_alloc | with_reducible apply pw_below_drewN | with_reducible apply below_drew1 | (with_reducible refine below_set ?_ ?hy; (case hy => omega))))⟩ ?_
  intro w1 F
  replace F := Aside0.mk F
  go_upto_region 2 with (first | ((with_reducible refine (awake.calls _).mono ?_); rintro e_ w2 ⟨rfl, hq⟩; have F' := Aside0.mk (F.out.below hq); clear F hq; have F := F'; clear F') | fail)
  go_upto_region 3 with (first | ((with_reducible refine gate_dst (N := 14) rfl ?_); refine wpList_load_row rfl 23 (.tmp 2) rfl (w.heap.size) rfl 23 #[.int .i64 (seg), .int .i64 (mx), .int .i64 (fst), .int .i64 (grain), .int .i64 (lst), .int .i64 (great), .int .i64 (burst)] (0, 0) _ F.out.b0 Tryz.underlying23 rfl (by kernel_rfl) ?_) | ((with_reducible refine (NW.out _).mono ?_); rintro e_ w3 ⟨cs, rfl, hg, hq⟩; have F' := Aside0.mk (F.out.below hq); clear F hq; have F := F'; clear F'; have SZ := Aside0.mk (show (Tryz.prog.info? 39).map (·.size) = some cs.size from by rw [hg.size]; kernel_rfl); have SQ := Aside0.mk (show zs39.size = cs.size from by rw [hg.size]; rfl); have GO := Aside0.mk hg; clear hg) | ((with_reducible refine gate_store (t := 39) (p := 6) rfl ?_); refine wpList_store_row rfl 39 (.tmp 6) (.tmp 16) rfl (w3.heap.size) cs rfl rfl 39 zs39 (by unfold zs39; exact blk_new _ _) SZ.out SQ.out GO.out.one ?_) | fail)
  refine name_world (fun W => TopR w W seg mx fst grain lst great burst w3.heap.size 0) ⟨(F.out.alloc _).row F.out.lt _, F.out.lt, cs, 0, setRow_heap _ _ _ _ _ _ (blk_new _ _), GO.out.keep (fun _ _ hs => hs.new _), Int.le_refl _, by omega⟩ ?_
  clear F GO SZ SQ NW
  obtain ⟨g, hg⟩ : ∃ g : Nat, g = w3.heap.size := ⟨_, rfl⟩
  rw [← hg]
  clear hg
  intro w4 R
  have c6 : w4.cell? ⟨w.heap.size, 6, none⟩ = some (.int .i64 burst) := (blk_cell R.f.b0 6).trans rfl
  have c1 : w4.cell? ⟨w.heap.size, 1, none⟩ = some (.int .i64 mx) := (blk_cell R.f.b0 1).trans rfl
  have c5 : w4.cell? ⟨w.heap.size, 5, none⟩ = some (.int .i64 great) := (blk_cell R.f.b0 5).trans rfl
  replace R := Aside0.mk R
  go_upto_region 6 with (fail)
  clear c6 c1 c5 d1 d2
  go_wp2_with fail
  go_loopw [8, 9] (fun at_ i wr => ∃ k : Nat, k ≤ 149 ∧ (k : Int) ≤ 140 + more % 10 ∧ i = .int .i64 (k : Int) ∧ at_ = .int .i64 ((k : Int) * 100000) ∧ Aside0 (TopR w wr seg mx fst grain lst great burst g k)) (fun _ i _ => 150 - (intOf i).toNat)
  case atStart => exact ⟨0, by omega, by omega, rfl, rfl, R⟩
  case round =>
    obtain ⟨k, hk, hk2, rfl, rfl, hT⟩ := hrel
    have mm : 0 ≤ more % 10 ∧ more % 10 ≤ 9 := by omega
    obtain ⟨cs, sent, B, GO, s0, s1⟩ := hT.out.ex
    have F := Aside0.mk hT.out.f
    have hg := hT.out.hg
    clear hT
    obtain ⟨b0, b1, b2, b3, b4, b5, b6, b7, b8, b9, b10, b11, b12, b13⟩ := OK.out.bounds
    obtain ⟨k2, k3⟩ := winAt_bounds b4 b5 k
    have TP := Aside0.mk (fun h => winAt_top b4 b5 (by omega) k h)
    have TP1 := Aside0.mk (fun h => winAt_top b4 b5 (by omega) (k + 1) h)
    have hK1 : winAt fst mx (k + 1) = nxt (winAt fst mx k) mx := rfl
    obtain ⟨K0, hK0⟩ : ∃ K0, K0 = winAt fst mx k := ⟨_, rfl⟩
    obtain ⟨K1, hK1'⟩ : ∃ K1, K1 = winAt fst mx (k + 1) := ⟨_, rfl⟩
    obtain ⟨n0, n1⟩ := nxt_bounds k2 k3
    rw [← hK1] at n0 n1
    rw [← hK0] at k2 k3 GO hK1 n0 TP
    rw [← hK1'] at hK1 n0 n1 TP1
    have t3 := tw3 K0 seg burst b0 b1 k2 (by omega) b13
    have hm3 : mx ≤ 1000 := by omega
    by_cases hlt : (k : Int) < 140 + more % 10
    · have TN := Aside0.mk (turnO.calls seg mx fst grain lst great burst K0 ((k : Int) * 100000) sent cs wr OK.out hmb hgr k2 k3 (by omega) (by omega) s0 (by omega) GO)
      rw [← hK1] at TN
      replace hK1' := Aside0.mk hK1'
      clear hK1
      have SZ := Aside0.mk (show (Tryz.prog.info? 39).map (·.size) = some cs.size from by rw [GO.size]; kernel_rfl)
      have GS := Aside0.mk GO.size
      replace GO := Aside0.mk GO
      replace B := Aside0.mk B
      replace hK0 := Aside0.mk hK0
      clear b0 b1 b6 b7 b8 b9 b10 b11 b12 b13
      go_upto_region 10 with (first | ((with_reducible refine gate_dst (N := 42) rfl ?_); refine wpList_load_row rfl 39 (.tmp 6) rfl g rfl 39 cs (0, 0) _ B.out Tryz.underlying39 rfl SZ.out ?_) | ((with_reducible refine (TN.out).mono ?_); rintro e_ w5 ⟨cs1, rfl, hg1, hq⟩; have F' := Aside0.mk (F.out.below hq); have B' := Aside0.mk (blk_below B.out hq); have GO' := Aside0.mk (GO.out.below hq); clear F B GO TN hq; have F := F'; have B := B'; have GO := GO'; clear F' B' GO'; have SZ1 := Aside0.mk (show (Tryz.prog.info? 39).map (·.size) = some cs1.size from by rw [hg1.size]; kernel_rfl); have SQ1 := Aside0.mk (show zs39.size = cs1.size from by rw [hg1.size]; rfl); have G1 := Aside0.mk hg1; clear hg1) | ((with_reducible refine gate_store (t := 39) (p := 10) rfl ?_); refine wpList_store_row rfl 39 (.tmp 10) (.tmp 45) rfl (w5.heap.size) cs1 rfl rfl 39 zs39 (by unfold zs39; exact blk_new _ _) SZ1.out SQ1.out G1.out.one ?_) | fail)
      refine name_world (fun W => TopF w W #[.int .i64 (seg), .int .i64 (mx), .int .i64 (fst), .int .i64 (grain), .int .i64 (lst), .int .i64 (great), .int .i64 (burst)] ∧ W.heap[g]? = some (.cells cs 39 (0, 0)) ∧ g < w5.heap.size ∧ W.heap[w5.heap.size]? = some (.cells cs1 39 (0, 0)) ∧ Good W seg mx fst grain lst great burst K1 ((k : Int) * 100000 + 100000) (sent + K0 * seg) cs1) ⟨(F.out.alloc _).row F.out.lt _, blk_row (blk_alloc B.out _) (Nat.ne_of_lt (blk_lt B.out)) _, blk_lt B.out, setRow_heap _ _ _ _ _ _ (blk_new _ _), G1.out.keep (fun _ _ hs => hs.new _)⟩ ?_
      obtain ⟨g1, hg1⟩ : ∃ g1 : Nat, g1 = w5.heap.size := ⟨_, rfl⟩
      rw [← hg1]
      have w9 : cs[9]? = some (.int .i64 (K0 * 65536)) := GO.out.win
      have w1 : cs[1]? = some (.int .i64 mx) := GO.out.cap
      clear F B G1 hg1 GO
      rintro w6 ⟨F, B, hlt1, B1, G1⟩
      have c9 : w6.cell? ⟨g, 9, none⟩ = some (.int .i64 (K0 * 65536)) := (blk_cell B 9).trans w9
      have c19 : w6.cell? ⟨g1, 9, none⟩ = some (.int .i64 (K1 * 65536)) := (blk_cell B1 9).trans G1.win
      have cf1 : w6.cell? ⟨w.heap.size, 1, none⟩ = some (.int .i64 mx) := (blk_cell F.b0 1).trans rfl
      replace F := Aside0.mk F
      replace B := Aside0.mk B
      replace B1 := Aside0.mk B1
      replace G1 := Aside0.mk G1
      replace w1 := Aside0.mk w1
      clear w9
      have e1 : wrap64 (mx * 65536) = mx * 65536 := wrap64_id _ (by omega) (by omega)
      have e2 : IntKind.i64.wrap (mx * 65536) = mx * 65536 := by first | (rw [i64_w]; exact e1) | (rw [← i64_w]; exact e1)
      have d1 : decide (K1 * 65536 < K0 * 65536) = false := decide_eq_false (by omega)
      by_cases h140 : 140 ≤ k
      · have e3 : K1 = mx := TP1.out (by omega)
        have d2 : decide ((k : Int) ≥ 140) = true := decide_eq_true (by omega)
        have d3 : (K1 * 65536 != mx * 65536) = false := by rw [e3]; simp
        replace e3 := Aside0.mk e3
        go_upto_region 12 with (fail)
        clear c9 c19 cf1 e1 e2 d1 d2 d3
        have SQ' : cs.size = cs1.size := GS.out.trans G1.out.size.symm
        replace SQ' := Aside0.mk SQ'
        go_wp2_with (first | ((with_reducible refine gate_dst (N := 68) rfl ?_); refine wpList_load_row rfl 39 (.tmp 10) rfl g1 rfl 39 cs1 (0, 0) _ B1.out Tryz.underlying39 rfl SZ1.out ?_) | ((with_reducible refine gate_store (t := 39) (p := 6) rfl ?_); refine wpList_store_row rfl 39 (.tmp 6) (.tmp 68) rfl g cs1 rfl rfl 39 cs B.out SZ1.out SQ'.out G1.out.one ?_) | fail)
        go_roundw
        case rel =>
          refine ⟨k + 1, by omega, by omega, by go_num, by rw [show ((k + 1 : Nat) : Int) * 100000 = (k : Int) * 100000 + 100000 from by omega], ⟨F.out.row hg _, hg, cs1, sent + K0 * seg, setRow_heap _ _ _ _ _ _ B.out, ?_, by omega, by omega⟩⟩
          have e5 : ((k + 1 : Nat) : Int) * 100000 = (k : Int) * 100000 + 100000 := by omega
          rw [← hK1'.out, e5]
          exact G1.out.off B.out w1.out (by omega) (gr_row (gr_refl _ _) _)
        case measure => simp [intOf]; omega
      · have d2 : decide ((k : Int) ≥ 140) = false := decide_eq_false (by omega)
        go_upto_region 12 with (fail)
        clear c9 c19 cf1 e1 e2 d1 d2
        have SQ' : cs.size = cs1.size := GS.out.trans G1.out.size.symm
        replace SQ' := Aside0.mk SQ'
        go_wp2_with (first | ((with_reducible refine gate_dst (N := 68) rfl ?_); refine wpList_load_row rfl 39 (.tmp 10) rfl g1 rfl 39 cs1 (0, 0) _ B1.out Tryz.underlying39 rfl SZ1.out ?_) | ((with_reducible refine gate_store (t := 39) (p := 6) rfl ?_); refine wpList_store_row rfl 39 (.tmp 6) (.tmp 68) rfl g cs1 rfl rfl 39 cs B.out SZ1.out SQ'.out G1.out.one ?_) | fail)
        go_roundw
        case rel =>
          refine ⟨k + 1, by omega, by omega, by go_num, by rw [show ((k + 1 : Nat) : Int) * 100000 = (k : Int) * 100000 + 100000 from by omega], ⟨F.out.row hg _, hg, cs1, sent + K0 * seg, setRow_heap _ _ _ _ _ _ B.out, ?_, by omega, by omega⟩⟩
          have e5 : ((k + 1 : Nat) : Int) * 100000 = (k : Int) * 100000 + 100000 := by omega
          rw [← hK1'.out, e5]
          exact G1.out.off B.out w1.out (by omega) (gr_row (gr_refl _ _) _)
        case measure => simp [intOf]; omega
    · have e3 : K0 = mx := TP.out (by omega)
      have c9 : wr.cell? ⟨g, 9, none⟩ = some (.int .i64 (K0 * 65536)) := (blk_cell B 9).trans GO.win
      have cf1 : wr.cell? ⟨w.heap.size, 1, none⟩ = some (.int .i64 mx) := (blk_cell F.out.b0 1).trans rfl
      have e1 : wrap64 (mx * 65536) = mx * 65536 := wrap64_id _ (by omega) (by omega)
      have e2 : IntKind.i64.wrap (mx * 65536) = mx * 65536 := by first | (rw [i64_w]; exact e1) | (rw [← i64_w]; exact e1)
      have d3 : (K0 * 65536 == mx * 65536) = true := by rw [e3]; simp
      replace e3 := Aside0.mk e3
      clear B GO hK0 hK1 hK1' n0 n1 t3 s0 s1 b0 b1 b2 b3 b4 b5 b6 b7 b8 b9 b10 b11 b12 b13
      go_wp2
      go_ret
      exact ⟨rfl, F.out.hb⟩
theorem topReaches.calls (seg mx fst grain lst great burst : Int) (more : Int) (w : World) (u0 : 0 ≤ more) (u1 : more ≤ 255) :
    Calls Tryz.prog 3 #[.agg #[.int .i64 (seg), .int .i64 (mx), .int .i64 (fst), .int .i64 (grain), .int .i64 (lst), .int .i64 (great), .int .i64 (burst)], .int .u8 more] w fun e w' => e = .returned (.bool true) ∧ Below w.heap.size w w' := by
  by_cases hok : okCfg seg mx fst grain lst great burst
  · by_cases hb : burst < mx
    · exact topBad2.calls seg mx fst grain lst great burst more w hok (.inl hb)
    · by_cases hg : great < 100000
      · exact topBad2.calls seg mx fst grain lst great burst more w hok (.inr ⟨by omega, hg⟩)
      · exact topGood.calls seg mx fst grain lst great burst more w hok (by omega) (by omega) u0 u1
  · exact topBad.calls seg mx fst grain lst great burst more w hok

end Go.Proofs.YtpkjdjhojbadhaaGreatDoor.Hp
