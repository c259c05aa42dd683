/- guide.bounds: the iterator over a configuration's numbers, each with its bounds. -/
import Derived.RangeFuncNested
import Derived.RangeFuncBound
import Derived.RangeFuncCalls
import Derived.RangeFuncLeaves
import Derived.Shelf.Abstract
import Derived.Shelf.RegionOpen
import Derived.WalkKit
import Derived.OwnWalkIn
import Derived.TacticsInMore
import Derived.LoopNIn
import Derived.LoopIn
import Derived.Test.YtpkjdjhojbadhaaGreatDoorTop5
-- MERGED of Top10 Top11
set_option linter.unusedVariables false
set_option linter.unusedSimpArgs false
namespace Go.Proofs.YtpkjdjhojbadhaaGreatDoor.Hp
open Go.RowKit Go.Shelf Go.Proofs.YtpkjdjhojbadhaaGreatDoorW.PrintWords Go.Proofs.YtpkjdjhojbadhaaGreatDoorW.PrintLast Go.Proofs.YtpkjdjhojbadhaaGreatDoorW.PrintMore
attribute [local go_sem] Oper.semAt_some
/-- The cells of blocks stay as they are, but for one block. -/
def KeepC (rb : Nat) (A B : World) : Prop := A.heap.size ≤ B.heap.size ∧ ∀ k cs t fr, k ≠ rb → A.heap[k]? = some (.cells cs t fr) → B.heap[k]? = some (.cells cs t fr)
theorem keepC_t {rb : Nat} {A B C : World} (h : KeepC rb A B) (k : KeepC rb B C) : KeepC rb A C := ⟨Nat.le_trans h.1 k.1, fun i cs t fr hi hA => k.2 i cs t fr hi (h.2 i cs t fr hi hA)⟩
theorem grow_alloc (W : World) (o : Obj) : W.grownBy (W.alloc o) none := ⟨rfl, rfl, rfl, by simp, fun k hk _ => Below.heap_alloc W o k hk⟩
/-- The numbers of a configuration, each with its bounds. -/
def nums (seg mx fst grain lst great burst : Int) : List (Int × Int × Int) := [(seg, 1, 9000), (mx, 4, 1048576), (fst, 2, mx), (grain, 1, 1000000), (lst, 1, great), (great, 1, 1099511627776), (burst, 1, 1000)]
set_option maxHeartbeats 3200000 in
set_option maxRecDepth 100000 in
theorem bnd1_in (F : Fence) (n : Nat) (h31 : F.fn 31) (hro : F.round = none) (hn : 1 ≤ n) (l Bn rb n0 : Nat) (seg mx fst grain lst great burst : Int) (J Jx : List (Int × Int × Int) → World → Prop)
    (hJ : AbidesFrom n0 J)
    (hY : ∀ pre x W, J pre W → pre.length < 7 → YieldAt F (n - 1) Tryz.prog l #[.agg #[.int .i64 x.1, .int .i64 0], .agg #[.int .i64 x.2.1, .int .i64 x.2.2]] W fun e W' =>
      (e = .returned (.bool true) ∧ J (pre ++ [x]) W' ∧ KeepC rb W W') ∨ (e = .returned (.bool false) ∧ Jx (pre ++ [x]) W'))
    (W : World) (hBn : W.heap[Bn]? = some (.cells #[.int .i64 seg, .int .i64 mx, .int .i64 fst, .int .i64 grain, .int .i64 lst, .int .i64 great, .int .i64 burst] 23 (0, 0))) (hrb : rb < W.heap.size) (h0 : J [] W) :
    CallsIn F n Tryz.prog 31 #[.func (.yield l) #[] #[], .pointer (some ⟨Bn, 0, none⟩)] W fun e W' => (∃ v, e = .returned v) ∧
      ((∃ ys, ys = nums seg mx fst grain lst great burst ∧ J ys W') ∨ (∃ pre, pre <+: nums seg mx fst grain lst great burst ∧ Jx pre W')) := by
  have k0 : W.cell? ⟨Bn, 0, none⟩ = some (.int .i64 seg) := (blk_cell hBn 0).trans rfl
  have k1 : W.cell? ⟨Bn, 1, none⟩ = some (.int .i64 mx) := (blk_cell hBn 1).trans rfl
  have k2 : W.cell? ⟨Bn, 2, none⟩ = some (.int .i64 fst) := (blk_cell hBn 2).trans rfl
  have k3 : W.cell? ⟨Bn, 3, none⟩ = some (.int .i64 grain) := (blk_cell hBn 3).trans rfl
  have k4 : W.cell? ⟨Bn, 4, none⟩ = some (.int .i64 lst) := (blk_cell hBn 4).trans rfl
  have k5 : W.cell? ⟨Bn, 5, none⟩ = some (.int .i64 great) := (blk_cell hBn 5).trans rfl
  have k6 : W.cell? ⟨Bn, 6, none⟩ = some (.int .i64 burst) := (blk_cell hBn 6).trans rfl
  have kl := blk_lt hBn
  have HBn := Aside0.mk hBn
  clear hBn
  refine callsIn_of_wp Tryz.func31 rfl h31 ?_ hro
  simp only [Tryz.ntmps31, List.size_toArray, List.length_cons, List.length_nil, Nat.reduceAdd, Nat.reduceSub, Array.replicate_succ, Array.replicate_zero, List.push_toArray, List.append_toArray, List.nil_append, List.cons_append]
  gi_wp2
  have HG : Aside0 ((W.alloc (.cells #[.int .i64 seg, .int .i64 0, .int .i64 1, .int .i64 9000, .int .i64 mx, .int .i64 0, .int .i64 4, .int .i64 1048576, .int .i64 fst, .int .i64 0, .int .i64 2, .int .i64 mx, .int .i64 grain, .int .i64 0, .int .i64 1, .int .i64 1000000, .int .i64 lst, .int .i64 0, .int .i64 1, .int .i64 great, .int .i64 great, .int .i64 0, .int .i64 1, .int .i64 1099511627776, .int .i64 burst, .int .i64 0, .int .i64 1, .int .i64 1000] 74)).heap[W.heap.size]? = some (.cells #[.int .i64 seg, .int .i64 0, .int .i64 1, .int .i64 9000, .int .i64 mx, .int .i64 0, .int .i64 4, .int .i64 1048576, .int .i64 fst, .int .i64 0, .int .i64 2, .int .i64 mx, .int .i64 grain, .int .i64 0, .int .i64 1, .int .i64 1000000, .int .i64 lst, .int .i64 0, .int .i64 1, .int .i64 great, .int .i64 great, .int .i64 0, .int .i64 1, .int .i64 1099511627776, .int .i64 burst, .int .i64 0, .int .i64 1, .int .i64 1000] 74 (0, 0))) := ⟨new_at _ _ _ rfl⟩
  have hJ0 := Aside0.mk (hJ _ _ _ none h0 (grow_alloc W (.cells #[.int .i64 seg, .int .i64 0, .int .i64 1, .int .i64 9000, .int .i64 mx, .int .i64 0, .int .i64 4, .int .i64 1048576, .int .i64 fst, .int .i64 0, .int .i64 2, .int .i64 mx, .int .i64 grain, .int .i64 0, .int .i64 1, .int .i64 1000000, .int .i64 lst, .int .i64 0, .int .i64 1, .int .i64 great, .int .i64 great, .int .i64 0, .int .i64 1, .int .i64 1099511627776, .int .i64 burst, .int .i64 0, .int .i64 1, .int .i64 1000] 74)) (fun r e => by cases e))
  clear k0 k1 k2 k3 k4 k5 k6 HBn h0
  gi_loopw [48] (fun i wr => ∃ k : Nat, k ≤ 7 ∧ i = .int .i64 k ∧ Aside0 (J ((nums seg mx fst grain lst great burst).take k) wr) ∧ Aside0 (wr.heap[W.heap.size]? = some (.cells #[.int .i64 seg, .int .i64 0, .int .i64 1, .int .i64 9000, .int .i64 mx, .int .i64 0, .int .i64 4, .int .i64 1048576, .int .i64 fst, .int .i64 0, .int .i64 2, .int .i64 mx, .int .i64 grain, .int .i64 0, .int .i64 1, .int .i64 1000000, .int .i64 lst, .int .i64 0, .int .i64 1, .int .i64 great, .int .i64 great, .int .i64 0, .int .i64 1, .int .i64 1099511627776, .int .i64 burst, .int .i64 0, .int .i64 1, .int .i64 1000] 74 (0, 0))))
    (fun i _ => 7 - (intOf i).toNat)
  case atStart => exact ⟨0, by omega, rfl, hJ0, HG⟩
  case round =>
    clear HG hJ0
    obtain ⟨k, hk, rfl, hJs, HG⟩ := hrel
    rcases (by omega : k = 0 ∨ k = 1 ∨ k = 2 ∨ k = 3 ∨ k = 4 ∨ k = 5 ∨ k = 6 ∨ k = 7) with rfl | rfl | rfl | rfl | rfl | rfl | rfl | rfl
    · obtain ⟨fn, tmps, assign, body, hy, hR⟩ := hY ((nums seg mx fst grain lst great burst).take 0) (seg, 1, 9000) (wr.alloc (.cells #[.int .i64 seg, .int .i64 0, .int .i64 1, .int .i64 9000] 74)) (hJ _ _ _ none hJs.out (grow_alloc wr _) (fun r e => by cases e)) (by simp [nums])
      dsimp only at hy
      have c0 : wr.cell? ⟨W.heap.size, 0, none⟩ = some (.int .i64 seg) := (blk_cell HG.out 0).trans rfl
      have c1 : wr.cell? ⟨W.heap.size, 1, none⟩ = some (.int .i64 0) := (blk_cell HG.out 1).trans rfl
      have c2 : wr.cell? ⟨W.heap.size, 2, none⟩ = some (.int .i64 1) := (blk_cell HG.out 2).trans rfl
      have c3 : wr.cell? ⟨W.heap.size, 3, none⟩ = some (.int .i64 9000) := (blk_cell HG.out 3).trans rfl
      have HR := Aside0.mk hR
      clear hR
      gi_wp2
      refine HR.out.mono ?_
      rintro e W3 (⟨rfl, hJ3, hk3⟩ | ⟨rfl, hJx3⟩)
      · have HG3 := Aside0.mk (hk3.2 W.heap.size _ _ _ (by omega) (blk_alloc HG.out _))
        clear hy c0 c1 c2 c3
        gi_wp2
        go_roundw
        case rel => exact ⟨1, by omega, by simp, ⟨by simpa [nums] using hJ3⟩, HG3⟩
        case measure => simp [intOf]
      · clear hy c0 c1 c2 c3
        gi_wp2
        refine bodyPost_ret (results_none rfl _ _ _) rfl ?_
        exact ⟨⟨_, rfl⟩, .inr ⟨_, by simp [nums], hJx3⟩⟩
    · obtain ⟨fn, tmps, assign, body, hy, hR⟩ := hY ((nums seg mx fst grain lst great burst).take 1) (mx, 4, 1048576) (wr.alloc (.cells #[.int .i64 mx, .int .i64 0, .int .i64 4, .int .i64 1048576] 74)) (hJ _ _ _ none hJs.out (grow_alloc wr _) (fun r e => by cases e)) (by simp [nums])
      dsimp only at hy
      have c0 : wr.cell? ⟨W.heap.size, 4, none⟩ = some (.int .i64 mx) := (blk_cell HG.out 4).trans rfl
      have c1 : wr.cell? ⟨W.heap.size, 5, none⟩ = some (.int .i64 0) := (blk_cell HG.out 5).trans rfl
      have c2 : wr.cell? ⟨W.heap.size, 6, none⟩ = some (.int .i64 4) := (blk_cell HG.out 6).trans rfl
      have c3 : wr.cell? ⟨W.heap.size, 7, none⟩ = some (.int .i64 1048576) := (blk_cell HG.out 7).trans rfl
      have HR := Aside0.mk hR
      clear hR
      gi_wp2
      refine HR.out.mono ?_
      rintro e W3 (⟨rfl, hJ3, hk3⟩ | ⟨rfl, hJx3⟩)
      · have HG3 := Aside0.mk (hk3.2 W.heap.size _ _ _ (by omega) (blk_alloc HG.out _))
        clear hy c0 c1 c2 c3
        gi_wp2
        go_roundw
        case rel => exact ⟨2, by omega, by simp, ⟨by simpa [nums] using hJ3⟩, HG3⟩
        case measure => simp [intOf]
      · clear hy c0 c1 c2 c3
        gi_wp2
        refine bodyPost_ret (results_none rfl _ _ _) rfl ?_
        exact ⟨⟨_, rfl⟩, .inr ⟨_, by simp [nums], hJx3⟩⟩
    · obtain ⟨fn, tmps, assign, body, hy, hR⟩ := hY ((nums seg mx fst grain lst great burst).take 2) (fst, 2, mx) (wr.alloc (.cells #[.int .i64 fst, .int .i64 0, .int .i64 2, .int .i64 mx] 74)) (hJ _ _ _ none hJs.out (grow_alloc wr _) (fun r e => by cases e)) (by simp [nums])
      dsimp only at hy
      have c0 : wr.cell? ⟨W.heap.size, 8, none⟩ = some (.int .i64 fst) := (blk_cell HG.out 8).trans rfl
      have c1 : wr.cell? ⟨W.heap.size, 9, none⟩ = some (.int .i64 0) := (blk_cell HG.out 9).trans rfl
      have c2 : wr.cell? ⟨W.heap.size, 10, none⟩ = some (.int .i64 2) := (blk_cell HG.out 10).trans rfl
      have c3 : wr.cell? ⟨W.heap.size, 11, none⟩ = some (.int .i64 mx) := (blk_cell HG.out 11).trans rfl
      have HR := Aside0.mk hR
      clear hR
      gi_wp2
      refine HR.out.mono ?_
      rintro e W3 (⟨rfl, hJ3, hk3⟩ | ⟨rfl, hJx3⟩)
      · have HG3 := Aside0.mk (hk3.2 W.heap.size _ _ _ (by omega) (blk_alloc HG.out _))
        clear hy c0 c1 c2 c3
        gi_wp2
        go_roundw
        case rel => exact ⟨3, by omega, by simp, ⟨by simpa [nums] using hJ3⟩, HG3⟩
        case measure => simp [intOf]
      · clear hy c0 c1 c2 c3
        gi_wp2
        refine bodyPost_ret (results_none rfl _ _ _) rfl ?_
        exact ⟨⟨_, rfl⟩, .inr ⟨_, by simp [nums], hJx3⟩⟩
    · obtain ⟨fn, tmps, assign, body, hy, hR⟩ := hY ((nums seg mx fst grain lst great burst).take 3) (grain, 1, 1000000) (wr.alloc (.cells #[.int .i64 grain, .int .i64 0, .int .i64 1, .int .i64 1000000] 74)) (hJ _ _ _ none hJs.out (grow_alloc wr _) (fun r e => by cases e)) (by simp [nums])
      dsimp only at hy
      have c0 : wr.cell? ⟨W.heap.size, 12, none⟩ = some (.int .i64 grain) := (blk_cell HG.out 12).trans rfl
      have c1 : wr.cell? ⟨W.heap.size, 13, none⟩ = some (.int .i64 0) := (blk_cell HG.out 13).trans rfl
      have c2 : wr.cell? ⟨W.heap.size, 14, none⟩ = some (.int .i64 1) := (blk_cell HG.out 14).trans rfl
      have c3 : wr.cell? ⟨W.heap.size, 15, none⟩ = some (.int .i64 1000000) := (blk_cell HG.out 15).trans rfl
      have HR := Aside0.mk hR
      clear hR
      gi_wp2
      refine HR.out.mono ?_
      rintro e W3 (⟨rfl, hJ3, hk3⟩ | ⟨rfl, hJx3⟩)
      · have HG3 := Aside0.mk (hk3.2 W.heap.size _ _ _ (by omega) (blk_alloc HG.out _))
        clear hy c0 c1 c2 c3
        gi_wp2
        go_roundw
        case rel => exact ⟨4, by omega, by simp, ⟨by simpa [nums] using hJ3⟩, HG3⟩
        case measure => simp [intOf]
      · clear hy c0 c1 c2 c3
        gi_wp2
        refine bodyPost_ret (results_none rfl _ _ _) rfl ?_
        exact ⟨⟨_, rfl⟩, .inr ⟨_, by simp [nums], hJx3⟩⟩
    · obtain ⟨fn, tmps, assign, body, hy, hR⟩ := hY ((nums seg mx fst grain lst great burst).take 4) (lst, 1, great) (wr.alloc (.cells #[.int .i64 lst, .int .i64 0, .int .i64 1, .int .i64 great] 74)) (hJ _ _ _ none hJs.out (grow_alloc wr _) (fun r e => by cases e)) (by simp [nums])
      dsimp only at hy
      have c0 : wr.cell? ⟨W.heap.size, 16, none⟩ = some (.int .i64 lst) := (blk_cell HG.out 16).trans rfl
      have c1 : wr.cell? ⟨W.heap.size, 17, none⟩ = some (.int .i64 0) := (blk_cell HG.out 17).trans rfl
      have c2 : wr.cell? ⟨W.heap.size, 18, none⟩ = some (.int .i64 1) := (blk_cell HG.out 18).trans rfl
      have c3 : wr.cell? ⟨W.heap.size, 19, none⟩ = some (.int .i64 great) := (blk_cell HG.out 19).trans rfl
      have HR := Aside0.mk hR
      clear hR
      gi_wp2
      refine HR.out.mono ?_
      rintro e W3 (⟨rfl, hJ3, hk3⟩ | ⟨rfl, hJx3⟩)
      · have HG3 := Aside0.mk (hk3.2 W.heap.size _ _ _ (by omega) (blk_alloc HG.out _))
        clear hy c0 c1 c2 c3
        gi_wp2
        go_roundw
        case rel => exact ⟨5, by omega, by simp, ⟨by simpa [nums] using hJ3⟩, HG3⟩
        case measure => simp [intOf]
      · clear hy c0 c1 c2 c3
        gi_wp2
        refine bodyPost_ret (results_none rfl _ _ _) rfl ?_
        exact ⟨⟨_, rfl⟩, .inr ⟨_, by simp [nums], hJx3⟩⟩
    · obtain ⟨fn, tmps, assign, body, hy, hR⟩ := hY ((nums seg mx fst grain lst great burst).take 5) (great, 1, 1099511627776) (wr.alloc (.cells #[.int .i64 great, .int .i64 0, .int .i64 1, .int .i64 1099511627776] 74)) (hJ _ _ _ none hJs.out (grow_alloc wr _) (fun r e => by cases e)) (by simp [nums])
      dsimp only at hy
      have c0 : wr.cell? ⟨W.heap.size, 20, none⟩ = some (.int .i64 great) := (blk_cell HG.out 20).trans rfl
      have c1 : wr.cell? ⟨W.heap.size, 21, none⟩ = some (.int .i64 0) := (blk_cell HG.out 21).trans rfl
      have c2 : wr.cell? ⟨W.heap.size, 22, none⟩ = some (.int .i64 1) := (blk_cell HG.out 22).trans rfl
      have c3 : wr.cell? ⟨W.heap.size, 23, none⟩ = some (.int .i64 1099511627776) := (blk_cell HG.out 23).trans rfl
      have HR := Aside0.mk hR
      clear hR
      gi_wp2
      refine HR.out.mono ?_
      rintro e W3 (⟨rfl, hJ3, hk3⟩ | ⟨rfl, hJx3⟩)
      · have HG3 := Aside0.mk (hk3.2 W.heap.size _ _ _ (by omega) (blk_alloc HG.out _))
        clear hy c0 c1 c2 c3
        gi_wp2
        go_roundw
        case rel => exact ⟨6, by omega, by simp, ⟨by simpa [nums] using hJ3⟩, HG3⟩
        case measure => simp [intOf]
      · clear hy c0 c1 c2 c3
        gi_wp2
        refine bodyPost_ret (results_none rfl _ _ _) rfl ?_
        exact ⟨⟨_, rfl⟩, .inr ⟨_, by simp [nums], hJx3⟩⟩
    · obtain ⟨fn, tmps, assign, body, hy, hR⟩ := hY ((nums seg mx fst grain lst great burst).take 6) (burst, 1, 1000) (wr.alloc (.cells #[.int .i64 burst, .int .i64 0, .int .i64 1, .int .i64 1000] 74)) (hJ _ _ _ none hJs.out (grow_alloc wr _) (fun r e => by cases e)) (by simp [nums])
      dsimp only at hy
      have c0 : wr.cell? ⟨W.heap.size, 24, none⟩ = some (.int .i64 burst) := (blk_cell HG.out 24).trans rfl
      have c1 : wr.cell? ⟨W.heap.size, 25, none⟩ = some (.int .i64 0) := (blk_cell HG.out 25).trans rfl
      have c2 : wr.cell? ⟨W.heap.size, 26, none⟩ = some (.int .i64 1) := (blk_cell HG.out 26).trans rfl
      have c3 : wr.cell? ⟨W.heap.size, 27, none⟩ = some (.int .i64 1000) := (blk_cell HG.out 27).trans rfl
      have HR := Aside0.mk hR
      clear hR
      gi_wp2
      refine HR.out.mono ?_
      rintro e W3 (⟨rfl, hJ3, hk3⟩ | ⟨rfl, hJx3⟩)
      · have HG3 := Aside0.mk (hk3.2 W.heap.size _ _ _ (by omega) (blk_alloc HG.out _))
        clear hy c0 c1 c2 c3
        gi_wp2
        go_roundw
        case rel => exact ⟨7, by omega, by simp, ⟨by simpa [nums] using hJ3⟩, HG3⟩
        case measure => simp [intOf]
      · clear hy c0 c1 c2 c3
        gi_wp2
        refine bodyPost_ret (results_none rfl _ _ _) rfl ?_
        exact ⟨⟨_, rfl⟩, .inr ⟨_, by simp [nums], hJx3⟩⟩
    · gi_wp2
      go_end0
      exact ⟨⟨_, rfl⟩, .inl ⟨_, rfl, by simpa [nums] using hJs.out⟩⟩
set_option maxHeartbeats 1000000 in
theorem bounds_in (F : Fence) (n : Nat) (h11 : F.fn 11) (hro : F.round = none) (seg mx fst grain lst great burst : Int) (w : World) :
    CallsIn F n Tryz.prog 11 #[.agg #[.int .i64 seg, .int .i64 mx, .int .i64 fst, .int .i64 grain, .int .i64 lst, .int .i64 great, .int .i64 burst]] w fun e w' => e = .returned (.func (.func 31) #[] #[.pointer (some ⟨w.heap.size, 0, none⟩)]) ∧ w' = w.alloc (.cells #[.int .i64 seg, .int .i64 mx, .int .i64 fst, .int .i64 grain, .int .i64 lst, .int .i64 great, .int .i64 burst] 23) := by
  have hmf : ∀ (fn : Fn) (first cap : Array Value) (w : World), (Instr.makeFunc fn first cap).run Tryz.prog w = .ok (.func fn first cap) w := fun _ _ _ _ => rfl
  refine callsIn_of_wp Tryz.func11 rfl h11 ?_ hro
  simp only [Tryz.ntmps11, List.size_toArray, List.length_cons, List.length_nil, Nat.reduceAdd, Nat.reduceSub, Array.replicate_succ, Array.replicate_zero, List.push_toArray, List.append_toArray, List.nil_append, List.cons_append]
  gi_wp2
  go_ret
  exact ⟨rfl, rfl⟩
theorem keepC_b {rb B : Nat} (W : World) (l : Nat) (o o' : Obj) (_hB : B ≤ l) (hl : W.heap[l]? = some o) (ho : o.isCells = false) (_hw : o.isWalk = false) : KeepC rb W (W.putObj l o') := by
  refine ⟨by simp, fun k cs t fr _ hk => ?_⟩
  refine (World.putObj_heap_other (fun e => ?_)).trans hk
  subst e
  rw [hl] at hk
  cases hk
  simp [Obj.isCells] at ho
theorem keepC_alloc (rb : Nat) (W : World) (o : Obj) : KeepC rb W (W.alloc o) := ⟨by simp, fun k cs t fr _ hk => (Below.heap_alloc W o k (blk_lt hk)).trans hk⟩
theorem keepC_refl (rb : Nat) (W : World) : KeepC rb W W := ⟨Nat.le_refl _, fun _ _ _ _ _ h => h⟩
theorem blk_own {W W' : World} {row : Option Nat} {g : Nat} {cs : Array Value} {t : TypeId} {fr : Nat × Nat} (h : W.heap[g]? = some (.cells cs t fr)) (hg : W.grownBy W' row) (hr : ∀ r, row = some r → ∃ o : Obj, W.heap[r]? = some o ∧ o.isCells = false) : W'.heap[g]? = some (.cells cs t fr) := by
  refine (hg.block g (blk_lt h) (fun e => ?_)).trans h
  obtain ⟨o, ho, hc⟩ := hr g e.symm
  rw [h] at ho
  cases ho
  simp [Obj.isCells] at hc
theorem bnd_stops (F : Fence) (n : Nat) (h31 : F.fn 31) (hro : F.round = none) (hn : 1 ≤ n) (Bn rb : Nat) (seg mx fst grain lst great burst : Int) (w : World) (hrb : rb < w.heap.size)
    (hBn : w.heap[Bn]? = some (.cells #[.int .i64 seg, .int .i64 mx, .int .i64 fst, .int .i64 grain, .int .i64 lst, .int .i64 great, .int .i64 burst] 23 (0, 0))) :
    SeqStopsK F n Tryz.prog 31 #[.pointer (some ⟨Bn, 0, none⟩)] (fun x : Int × Int × Int => #[.agg #[.int .i64 x.1, .int .i64 0], .agg #[.int .i64 x.2.1, .int .i64 x.2.2]]) (KeepC rb) (fun ys => ys = nums seg mx fst grain lst great burst) (fun pre => pre <+: nums seg mx fst grain lst great burst) 7 w :=
  fun l J Jx W hW hJ _ hY h0 => bnd1_in F n h31 hro hn l Bn rb W.heap.size seg mx fst grain lst great burst J Jx hJ hY W ((hW.block Bn (blk_lt hBn)).trans hBn) (Nat.lt_of_lt_of_le hrb hW.size) h0

end Go.Proofs.YtpkjdjhojbadhaaGreatDoor.Hp

set_option linter.unusedVariables false
set_option linter.unusedSimpArgs false
namespace Go.Proofs.YtpkjdjhojbadhaaGreatDoor.Hp
open Go.RowKit Go.Shelf Go.Proofs.YtpkjdjhojbadhaaGreatDoorW.PrintWords Go.Proofs.YtpkjdjhojbadhaaGreatDoorW.PrintLast Go.Proofs.YtpkjdjhojbadhaaGreatDoorW.PrintMore
attribute [local go_sem] Oper.semAt_some
def good (x : Int × Int × Int) : Prop := x.2.1 ≤ x.1 ∧ x.1 ≤ x.2.2
def okCfg (seg mx fst grain lst great burst : Int) : Prop := ∀ x ∈ nums seg mx fst grain lst great burst, good x
set_option maxHeartbeats 3200000 in
set_option maxRecDepth 100000 in
theorem check_in (F : Fence) (n : Nat) (h7 : F.fn 7) (h11 : F.fn 11) (h31 : F.fn 31) (hro : F.round = none) (hn : 6 ≤ n) (seg mx fst grain lst great burst : Int) (r : Int) (hr0 : okCfg seg mx fst grain lst great burst → r = 0) (hr1 : ¬ okCfg seg mx fst grain lst great burst → r = 210) (w : World) :
    CallsIn F n Tryz.prog 7 #[.agg #[.int .i64 seg, .int .i64 mx, .int .i64 fst, .int .i64 grain, .int .i64 lst, .int .i64 great, .int .i64 burst]] w fun e W' => e = .returned (.int .i64 r) ∧ Below w.heap.size w W' := by
  have h1 : 1 ≤ n := by omega
  refine callsIn_of_wp_marks Tryz.func7 rfl h7 ?_ hro
  simp only [Tryz.ntmps7, List.size_toArray, List.length_cons, List.length_nil, Nat.reduceAdd, Nat.reduceSub, Array.replicate_succ, Array.replicate_zero, List.push_toArray, List.append_toArray, List.nil_append, List.cons_append]
  gi_wp2_with (gi_at_call 11; refine (bounds_in F (n - 1) h11 hro _ _ _ _ _ _ _ _).mono ?_; rintro e w' ⟨rfl, rfl⟩)
  obtain ⟨W0, hW0⟩ : ∃ W0, ((w.alloc (.cells #[.int .i64 seg, .int .i64 mx, .int .i64 fst, .int .i64 grain, .int .i64 lst, .int .i64 great, .int .i64 burst] 23)).alloc (.cells #[.int .i64 0] 40)).alloc (.cells #[.int .i64 seg, .int .i64 mx, .int .i64 fst, .int .i64 grain, .int .i64 lst, .int .i64 great, .int .i64 burst] 23) = W0 := ⟨_, rfl⟩
  have bR : W0.heap[w.heap.size + 1]? = some (.cells #[.int .i64 0] 40 (0, 0)) := by rw [← hW0]; exact (by (repeat (first | (with_reducible refine new_at _ _ _ ?hn; (case hn => first | rfl | (simp; done))) | with_reducible refine blk_alloc ?_ _ | with_reducible refine blk_drewN ?_ _ | with_reducible refine blk_drew ?_ | (with_reducible refine blk_far ?_ ?hb _; (case hb => first | omega | (simp; done) | (simp; omega))))))
  have bC : W0.heap[w.heap.size + 1 + 1]? = some (.cells #[.int .i64 seg, .int .i64 mx, .int .i64 fst, .int .i64 grain, .int .i64 lst, .int .i64 great, .int .i64 burst] 23 (0, 0)) := by rw [← hW0]; exact (by (repeat (first | (with_reducible refine new_at _ _ _ ?hn; (case hn => first | rfl | (simp; done))) | with_reducible refine blk_alloc ?_ _ | with_reducible refine blk_drewN ?_ _ | with_reducible refine blk_drew ?_ | (with_reducible refine blk_far ?_ ?hb _; (case hb => first | omega | (simp; done) | (simp; omega))))))
  have hB0 : Below w.heap.size w W0 := by rw [← hW0]; exact (by (repeat (first | with_reducible exact HB.out | with_reducible exact Below.refl _ _ | with_reducible apply below_alloc | with_reducible apply pw_below_drewN | with_reducible apply below_drew1 | (with_reducible refine below_set ?_ ?hy; (case hy => omega)))))
  have hsz : W0.heap.size = w.heap.size + 3 := by rw [← hW0]; simp
  rw [hW0]
  clear hW0
  refine wpIn_rangeFunc_ownH hro h1 (gf := 31) (lb := #[.pointer (some ⟨w.heap.size + 1 + 1, 0, none⟩)]) rfl h31 (enters_of Tryz.func31 (by kernel_rfl) rfl)
    (bnd_stops F (n - 1) h31 hro (by omega) (w.heap.size + 1 + 1) (w.heap.size + 1) seg mx fst grain lst great burst W0 (by omega) bC) keepC_t (fun W l o o' hl => keepC_b W l o o' hl) (Below.refl _ _) (fun _ => rfl)
    (fun pre W => (W.heap[w.heap.size + 1]? = some (.cells #[.int .i64 0] 40 (0, 0)) ∧ ∀ x ∈ pre, good x) ∧ Below w.heap.size w W)
    (fun c pre W => (W.heap[w.heap.size + 1]? = some (.cells #[.int .i64 210] 40 (0, 0)) ∧ (c = .ret ∧ ∃ x ∈ pre, ¬ good x)) ∧ Below w.heap.size w W)
    (OwnFrom.and (fun s A B row hs hg hr => ⟨blk_own hs.1 hg (fun r e => (hr r e).2), hs.2⟩) (ownFrom_below (Nat.le_refl _) (by omega)))
    (fun c => OwnFrom.and (fun s A B row hs hg hr => ⟨blk_own hs.1 hg (fun r e => (hr r e).2), hs.2⟩) (ownFrom_below (Nat.le_refl _) (by omega)))
    ⟨⟨bR, fun x hx => by cases hx⟩, hB0⟩
    (fun x a' W => ∃ Bx By, (w.heap.size + 1 < Bx ∧ w.heap.size + 1 < By) ∧ W.heap[Bx]? = some (.cells #[.int .i64 x.1, .int .i64 0] 55 (0, 0)) ∧ W.heap[By]? = some (.cells #[.int .i64 x.2.1, .int .i64 x.2.2] 55 (0, 0)) ∧ a' = { tmps := #[.agg #[.int .i64 seg, .int .i64 mx, .int .i64 fst, .int .i64 grain, .int .i64 lst, .int .i64 great, .int .i64 burst], .pointer (some ⟨w.heap.size, 0, none⟩), .pointer (some ⟨w.heap.size + 1, 0, none⟩), .pointer (some ⟨Bx, 0, none⟩), .pointer (some ⟨By, 0, none⟩), .agg #[.int .i64 seg, .int .i64 mx, .int .i64 fst, .int .i64 grain, .int .i64 lst, .int .i64 great, .int .i64 burst], .func (.func 31) #[] #[.pointer (some ⟨w.heap.size + 1 + 1, 0, none⟩)], .agg #[.int .i64 x.1, .int .i64 0], .agg #[.int .i64 x.2.1, .int .i64 x.2.2], undef, undef, undef, undef, undef, undef, undef, undef, undef, undef, undef, undef], defers := [] })
    (fun x a' _ X Y row hs hg hr => by obtain ⟨Bx, By, h1, h2, h3, h4⟩ := hs; exact ⟨Bx, By, h1, blk_own h2 hg (fun r e => (hr r e).2), blk_own h3 hg (fun r e => (hr r e).2), h4⟩)
    ?assign ?body ?done ?stop
  case assign =>
    rintro l pre x W K ⟨⟨bR1, hg1⟩, hB1⟩ hK
    have hsW := blk_lt bR1
    gi_wp2
    exact hK _ _ (((KeepsOthers.alloc _ _).trans (KeepsOthers.alloc _ _)).from _) (keepC_t (keepC_alloc _ _ _) (keepC_alloc _ _ _)) ⟨⟨blk_alloc (blk_alloc bR1 _) _, hg1⟩, (hB1.alloc hB1.size _).alloc (by simp; have := hB1.size; omega) _⟩ ⟨W.heap.size, W.heap.size + 1, ⟨by omega, by omega⟩, blk_alloc (blk_new _ _) _, new_at _ _ _ (by simp), rfl⟩
  case body =>
    rintro l pre ⟨v, lo, hi⟩ a' W hl ⟨r9, hr9⟩ ⟨⟨bR1, hg1⟩, hB1⟩ ⟨Bx, By, ⟨hx1, hy1⟩, bX, bY, rfl⟩ hlt
    dsimp only at bX bY ⊢
    have x0 : W.cell? ⟨Bx, 0, none⟩ = some (.int .i64 v) := (blk_cell bX 0).trans rfl
    have y0 : W.cell? ⟨By, 0, none⟩ = some (.int .i64 lo) := (blk_cell bY 0).trans rfl
    have y1 : W.cell? ⟨By, 1, none⟩ = some (.int .i64 hi) := (blk_cell bY 1).trans rfl
    have z0 : W.cell? ⟨w.heap.size + 1, 0, none⟩ = some (.int .i64 0) := (blk_cell bR1 0).trans rfl
    have z1 := blk_frozen bR1 0
    have HR := Aside0.mk bR1
    have HG := Aside0.mk hg1
    clear bR1 hg1 bX bY hr9
    rcases Int.lt_or_le v lo with hv | hv
    · have c0 : decide (v < lo) = true := decide_eq_true hv
      gi_wp2
      exact ⟨(KeepsOthers.setCell _ _ _).from _, ⟨blk_put HR.out 0 _ rfl, rfl, ⟨(v, lo, hi), by simp, fun h => by have := h.1; simp at this; omega⟩⟩, hB1.setCell (p := ⟨w.heap.size + 1, 0, none⟩) (by simp) _⟩
    · have c0 : decide (v < lo) = false := decide_eq_false (by omega)
      rcases Int.lt_or_le hi v with hw | hw
      · have c1 : decide (v > hi) = true := decide_eq_true hw
        gi_wp2
        exact ⟨(KeepsOthers.setCell _ _ _).from _, ⟨blk_put HR.out 0 _ rfl, rfl, ⟨(v, lo, hi), by simp, fun h => by have := h.2; simp at this; omega⟩⟩, hB1.setCell (p := ⟨w.heap.size + 1, 0, none⟩) (by simp) _⟩
      · have c1 : decide (v > hi) = false := decide_eq_false (by omega)
        gi_wp2
        refine ⟨KeepsFrom.refl _ _, keepC_refl _ _, ⟨HR.out, fun y hy => ?_⟩, hB1⟩
        rcases List.mem_append.1 hy with h | h
        · exact HG.out y h
        · obtain rfl := List.mem_singleton.1 h
          exact ⟨hv, hw⟩
  case done =>
    rintro D zs W hD rfl ⟨⟨bR1, hg1⟩, hB1⟩ hK
    obtain rfl := hr0 hg1
    have z0 : W.cell? ⟨w.heap.size + 1, 0, none⟩ = some (.int .i64 0) := (blk_cell bR1 0).trans rfl
    have z1 := blk_frozen bR1 0
    have HR := Aside0.mk bR1
    clear bR1 hg1 hr0 hr1
    gi_wp2
    refine ⟨by simp, .inl ⟨_, _, rfl, run_takeDeferred ((KeepsOthers.setCell _ _ _).same D _ hK rfl), ?_⟩⟩
    have kb : ((W.setCell ⟨w.heap.size + 1, 0, none⟩ (.int .i64 0)).putObj D (.deferred none)).heap[w.heap.size + 1]? = some (.cells #[.int .i64 0] 40 (0, 0)) := (World.putObj_heap_other (by omega)).trans (blk_put HR.out 0 _ rfl)
    have kc : ((W.setCell ⟨w.heap.size + 1, 0, none⟩ (.int .i64 0)).putObj D (.deferred none)).cell? ⟨w.heap.size + 1, 0, none⟩ = some (.int .i64 0) := (blk_cell kb 0).trans rfl
    exact ⟨.int .i64 0, by simp [results, go_sem, kc], rfl, (hB1.setCell (p := ⟨w.heap.size + 1, 0, none⟩) (by simp) _).trans (belowK_b (w := w) (Nat.le_refl _) _ D _ _ (by omega) ((KeepsOthers.setCell _ _ _).same D _ hK rfl) rfl rfl)⟩
  case stop =>
    rintro D c pre W hD hp ⟨⟨bR1, rfl, x, hx, hg1⟩, hB1⟩ hK
    obtain rfl := hr1 (fun h => hg1 (h x (hp.subset hx)))
    have z0 : W.cell? ⟨w.heap.size + 1, 0, none⟩ = some (.int .i64 210) := (blk_cell bR1 0).trans rfl
    have z1 := blk_frozen bR1 0
    have HR := Aside0.mk bR1
    clear bR1 hg1 hr0 hr1 hx
    gi_wp2
    refine ⟨by simp, .inl ⟨_, _, rfl, run_takeDeferred hK, ?_⟩⟩
    have kb : (W.putObj D (.deferred none)).heap[w.heap.size + 1]? = some (.cells #[.int .i64 210] 40 (0, 0)) := (World.putObj_heap_other (by omega)).trans HR.out
    have kc : (W.putObj D (.deferred none)).cell? ⟨w.heap.size + 1, 0, none⟩ = some (.int .i64 210) := (blk_cell kb 0).trans rfl
    exact ⟨.int .i64 210, by simp [results, go_sem, kc], rfl, hB1.trans (belowK_b (w := w) (Nat.le_refl _) _ D _ _ (by omega) hK rfl rfl)⟩
theorem check.calls (seg mx fst grain lst great burst : Int) (r : Int) (hr0 : okCfg seg mx fst grain lst great burst → r = 0) (hr1 : ¬ okCfg seg mx fst grain lst great burst → r = 210) (w : World) :
    Calls Tryz.prog 7 #[.agg #[.int .i64 seg, .int .i64 mx, .int .i64 fst, .int .i64 grain, .int .i64 lst, .int .i64 great, .int .i64 burst]] w fun e W' => e = .returned (.int .i64 r) ∧ Below w.heap.size w W' :=
  callsIn_wide.1 (check_in Fence.wide 6 trivial trivial trivial rfl (Nat.le_refl _) seg mx fst grain lst great burst r hr0 hr1 w)

end Go.Proofs.YtpkjdjhojbadhaaGreatDoor.Hp
