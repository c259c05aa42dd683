/- 'awake' is true. -/
import Derived.Test.YtpkjdjhojbadhaaGreatDoorTop27
set_option linter.unusedVariables false
set_option linter.unusedSimpArgs false
namespace Go.Proofs.YtpkjdjhojbadhaaGreatDoor.Hp
open Go.RowKit Go.Proofs.YtpkjdjhojbadhaaGreatDoorW.PrintWords Go.Proofs.YtpkjdjhojbadhaaGreatDoorW.PrintLast Go.Proofs.YtpkjdjhojbadhaaGreatDoorW.PrintMore
attribute [local go_sem] max2_int min2_int max_two min_two max_three min_three max_four min_four
theorem newG.calls (seg mx fst grain lst great burst : Int) (w : World) (hok : okCfg seg mx fst grain lst great burst) :
    Calls Tryz.prog 5 #[.agg #[.int .i64 (seg), .int .i64 (mx), .int .i64 (fst), .int .i64 (grain), .int .i64 (lst), .int .i64 (great), .int .i64 (burst)]] w fun e w' => ∃ cs, e = .returned (.tuple #[.agg cs, .int .i64 0]) ∧ Good w' seg mx fst grain lst great burst fst 0 0 cs ∧ Below w.heap.size w w' := by
  obtain ⟨c0, c1, c2, c3, c4, c5, c6, c7, c8, c9, c10, c11, c12, c13⟩ := hok.bounds
  have b0 : 0 ≤ burst * seg := Int.mul_nonneg (by omega) (by omega)
  have b1 : burst * seg ≤ 1000 * seg := Int.mul_le_mul_of_nonneg_right c13 (by omega)
  refine (newO.calls seg mx fst grain lst great burst w hok (by omega) (by omega) b0 (by omega)).mono ?_
  rintro e_ w' ⟨rfl, hb⟩
  exact ⟨_, rfl, ⟨0, false, 0, 0, 0, 0, 0, none, 0, 0, none, rfl, rfl, (fun x hx => by cases hx), by omega, by omega, by omega, .inl ⟨rfl, rfl, rfl⟩, by omega, by omega, by omega, by omega, by omega, by omega⟩, hb⟩
theorem okAwake : okCfg 1000 100 10 1000 200000 60000000 100 := by
  unfold okCfg nums good
  simp only [List.mem_cons, List.not_mem_nil, or_false, forall_eq_or_imp, forall_eq]
  omega
set_option maxHeartbeats 1600000 in
set_option maxRecDepth 100000 in
theorem awake.calls (w : World) : Calls Tryz.prog 4 #[] w fun e w' => e = .returned (.bool true) ∧ Below w.heap.size w w' := by
  have NW := Aside0.mk (fun W => newG.calls 1000 100 10 1000 200000 60000000 100 W okAwake)
  have TN := Aside0.mk (fun W cs (h : Good W 1000 100 10 1000 200000 60000000 100 10 0 0 cs) => (turnO.calls 1000 100 10 1000 200000 60000000 100 10 0 0 cs W okAwake (by omega) (by omega) (by omega) (by omega) (by omega) (by omega) (by omega) (by omega) h).mono (R' := fun e w' => ∃ cs', e = .returned (.tuple #[.agg cs', .bool true]) ∧ cs'.size = 39 ∧ cs'.all (·.oneCell') = true ∧ cs'[9]? = some (.int .i64 1179648) ∧ cs'[7]? = some (.int .i64 100000) ∧ cs'[13]? = some (.int .i64 10000) ∧ Below W.heap.size W w')
    (fun e w' ⟨cs', he, hg, hb⟩ => ⟨cs', he, hg.size, hg.one, hg.win, hg.now, hg.told, hb⟩))
  go_enter Tryz.func4, Tryz.ntmps4
  go_upto_region 2 with (first | ((with_reducible refine gate_store (t := 23) (p := 1) rfl ?_); refine wpList_store_row rfl 23 (.tmp 1) (.tmp 5) rfl (w.heap.size) #[.int .i64 1000, .int .i64 100, .int .i64 10, .int .i64 1000, .int .i64 200000, .int .i64 60000000, .int .i64 100] rfl rfl 23 #[.int .i64 0, .int .i64 0, .int .i64 0, .int .i64 0, .int .i64 0, .int .i64 0, .int .i64 0] (blk_new _ _) (by kernel_rfl) rfl (by simp [Value.oneCell']) ?_) | fail)
  refine name_world (fun W => W.heap[w.heap.size]? = some (.cells #[.int .i64 1000, .int .i64 100, .int .i64 10, .int .i64 1000, .int .i64 200000, .int .i64 60000000, .int .i64 100] 23 (0, 0)) ∧ Below w.heap.size w W) ⟨setRow_heap _ _ _ _ _ _ (blk_new _ _), below_row (below_alloc (Below.refl _ _) _) (Nat.le_refl _) _⟩ ?_
  rintro w1 ⟨B1, HB⟩
  replace B1 := Aside0.mk B1
  replace HB := Aside0.mk HB
  go_upto_region 3 with (first | ((with_reducible refine gate_dst (N := 7) rfl ?_); refine wpList_load_row rfl 23 (.tmp 1) rfl (w.heap.size) rfl 23 #[.int .i64 1000, .int .i64 100, .int .i64 10, .int .i64 1000, .int .i64 200000, .int .i64 60000000, .int .i64 100] (0, 0) _ B1.out Tryz.underlying23 rfl (by kernel_rfl) ?_) | ((with_reducible refine (NW.out _).mono ?_); rintro e_ w2 ⟨cs, rfl, hg, hq⟩; have HB2 := Aside0.mk (below_step HB.out hq); clear HB hq B1; have SZ := Aside0.mk (show (Tryz.prog.info? 39).map (·.size) = some cs.size from by rw [hg.size]; kernel_rfl); have SQ := Aside0.mk (show zs39.size = cs.size from by rw [hg.size]; rfl); have GO := Aside0.mk hg; clear hg) | ((with_reducible refine gate_store (t := 39) (p := 2) rfl ?_); refine wpList_store_row rfl 39 (.tmp 2) (.tmp 9) rfl (w2.heap.size) cs rfl rfl 39 zs39 (by unfold zs39; exact blk_new _ _) SZ.out SQ.out GO.out.one ?_) | fail)
  refine name_world (fun W => W.heap[w2.heap.size]? = some (.cells cs 39 (0, 0)) ∧ w2.heap.size < W.heap.size ∧ Good W 1000 100 10 1000 200000 60000000 100 10 0 0 cs ∧ Below w.heap.size w W) ⟨setRow_heap _ _ _ _ _ _ (blk_new _ _), by rw [setRow_size]; simp, GO.out.keep (fun _ _ hs => hs.new _), below_row (below_alloc HB2.out _) HB2.out.size _⟩ ?_
  have hsz := HB2.out.size
  clear GO HB2
  obtain ⟨g, hg⟩ : ∃ g : Nat, g = w2.heap.size := ⟨_, rfl⟩
  rw [← hg] at hsz ⊢
  clear hg
  rintro w3 ⟨B, hlt, GO, HB⟩
  replace B := Aside0.mk B
  replace GO := Aside0.mk GO
  replace HB := Aside0.mk HB
  go_upto_region 4 with (first | ((with_reducible refine gate_dst (N := 12) rfl ?_); refine wpList_load_row rfl 39 (.tmp 2) rfl g rfl 39 cs (0, 0) _ B.out Tryz.underlying39 rfl SZ.out ?_) | ((with_reducible refine (TN.out _ _ GO.out).mono ?_); rintro e_ w4 ⟨cs1, rfl, h1, h2, h3, h4, h5, hq⟩; have HB2 := Aside0.mk (below_step HB.out hq); have B2 := Aside0.mk (blk_below B.out hq); clear HB hq B GO; have SZ1 := Aside0.mk (show (Tryz.prog.info? 39).map (·.size) = some cs1.size from by rw [h1]; kernel_rfl); have SQ1 := Aside0.mk (show cs.size = cs1.size from by rw [h1, ← SQ.out]; rfl); clear h1; replace h2 := Aside0.mk h2; replace h3 := Aside0.mk h3; replace h4 := Aside0.mk h4; replace h5 := Aside0.mk h5) | ((with_reducible refine gate_store (t := 39) (p := 2) rfl ?_); refine wpList_store_row rfl 39 (.tmp 2) (.tmp 14) rfl g cs1 rfl rfl 39 cs B2.out SZ1.out SQ1.out h2.out ?_) | fail)
  refine name_world (fun W => W.heap[g]? = some (.cells cs1 39 (0, 0)) ∧ Below w.heap.size w W) ⟨setRow_heap _ _ _ _ _ _ B2.out, below_row HB2.out hsz _⟩ ?_
  clear B2 HB2
  rintro w5 ⟨B, HB⟩
  have c9 : w5.cell? ⟨g, 9, none⟩ = some (.int .i64 1179648) := (blk_cell B 9).trans h3.out
  have c7 : w5.cell? ⟨g, 7, none⟩ = some (.int .i64 100000) := (blk_cell B 7).trans h4.out
  have c13 : w5.cell? ⟨g, 13, none⟩ = some (.int .i64 10000) := (blk_cell B 13).trans h5.out
  replace B := Aside0.mk B
  replace HB := Aside0.mk HB
  go_wp2
  go_ret
  exact ⟨rfl, HB.out⟩

end Go.Proofs.YtpkjdjhojbadhaaGreatDoor.Hp
