/- Slices of marks: none, and one. -/
import Derived.Test.YtpkjdjhojbadhaaGreatDoorTop5
import Derived.WalkMore
import Derived.Lib.SliceRun
-- MERGED of Top13 Top14
set_option linter.unusedVariables false
set_option linter.unusedSimpArgs false
namespace Go.Proofs.YtpkjdjhojbadhaaGreatDoor.Hp
open Go.RowKit Go.Proofs.YtpkjdjhojbadhaaGreatDoorW.PrintWords Go.Proofs.YtpkjdjhojbadhaaGreatDoorW.PrintLast Go.Proofs.YtpkjdjhojbadhaaGreatDoorW.PrintMore
attribute [local go_sem] max2_int min2_int max_two min_two max_three min_three max_four min_four
theorem infoM : (Tryz.prog.info? 82).map (fun i => (i.zero, i.size, i.bytes)) = some (some (.agg #[.int .i64 0, .int .i64 0]), 2, 16) := by kernel_rfl
/-- The slice v holds one mark, of the time a, in W. -/
def Mk1 (W : World) (v : Value) (a : Int) : Prop := ∃ g c, v = .slice (some ⟨g, 0, none⟩) 1 c ∧ 1 ≤ c ∧ W.cell? ⟨g, 0, none⟩ = some (.int .i64 a) ∧ W.cell? ⟨g, 1, none⟩ = some (.int .i64 100000)
theorem Mk1.below {W W' : World} {v : Value} {a : Int} (h : Mk1 W v a) (hb : Below W.heap.size W W') : Mk1 W' v a := by
  obtain ⟨g, c, h1, h2, h3, h4⟩ := h
  exact ⟨g, c, h1, h2, (hb.cell (World.block_lt_of_cell? _ _ h3)).trans h3, (hb.cell (World.block_lt_of_cell? _ _ h4)).trans h4⟩
theorem Mk1.of_own {W : World} {base g c : Nat} {a : Int} (h : W.ownsRow base 82 2 (.slice (some ⟨g, 0, none⟩) 1 c) 1 [.int .i64 a, .int .i64 100000]) : Mk1 W (.slice (some ⟨g, 0, none⟩) 1 c) a := by
  have h0 := h.cells (g := g) rfl 0 _ rfl
  have h1 := h.cells (g := g) rfl 1 _ rfl
  refine ⟨g, c, rfl, ?_, h0, h1⟩
  rcases h.2 with ⟨e, _⟩ | ⟨g', c', cur, e, _, _, hc, _⟩
  · cases e
  · injection e with e1 e2 e3
    omega
theorem run_copy_0 {P : Program} (w : World) (dT sT ty elem : TypeId) (d : Option Addr) (s : Option Addr) (c d2 : Nat)
    (hu : P.underlying dT = some (.slice elem)) (hs : (P.info? elem).map (·.size) = some 2) :
    (Builtin.copy_ #[dT, sT] ty #[.slice d 0 d2, .slice s 0 c]).run P w = .ok (goInt 0) w := by
  cases hq : P.info? elem with
  | none => simp [hq] at hs
  | some i =>
    cases d <;> cases s <;> simp [Builtin.copy_, run_underlying hu, Builtin.lenOf, Builtin.firstCells, sizeOf, typeInfo, hq, storeCells, loadCells, loadCellsFrom]

set_option maxHeartbeats 1600000 in
set_option maxRecDepth 100000 in
theorem clone0.calls (w : World) : Calls Tryz.prog 34 #[.slice none 0 0] w fun e w' => e = .returned (.slice none 0 0) ∧ Below w.heap.size w w' := by
  have qT : ∀ (w : World) (a : Option Addr) (n c n' c' : Nat), (binOp .eql 29 (.slice a n c) (.slice none n' c')).run Tryz.prog w = .ok (.bool a.isNone) w := fun w a n c n' c' => Lib.run_eql_slice_nil w _ _ a n c n' c' Tryz.underlying29
  go_enter Tryz.func34, Tryz.ntmps34
  go_wp2
  go_ret
  exact ⟨rfl, (by (repeat (first | with_reducible exact HB.out | with_reducible exact Below.refl _ _ | with_reducible apply below_alloc | with_reducible apply pw_below_drewN | with_reducible apply below_drew1 | (with_reducible refine below_set ?_ ?hy; (case hy => omega)))))⟩
set_option maxHeartbeats 1600000 in
set_option maxRecDepth 100000 in
theorem clone1.calls (v : Value) (a : Int) (w : World) (hv : Mk1 w v a) : Calls Tryz.prog 34 #[v] w fun e w' => ∃ v', e = .returned v' ∧ Mk1 w' v' a ∧ Below w.heap.size w w' := by
  have qT : ∀ (w : World) (a : Option Addr) (n c n' c' : Nat), (binOp .eql 29 (.slice a n c) (.slice none n' c')).run Tryz.prog w = .ok (.bool a.isNone) w := fun w a n c n' c' => Lib.run_eql_slice_nil w _ _ a n c n' c' Tryz.underlying29
  obtain ⟨g, c, rfl, hc, h0, h1⟩ := hv
  have hg : g < w.heap.size := World.block_lt_of_cell? _ _ h0
  go_enter Tryz.func34, Tryz.ntmps34
  go_wp2_with fail
  go_ret
  refine ⟨_, rfl, ⟨w.heap.size + 1, _, rfl, grownCap_ge w 1 0 82, ?_, ?_⟩, (by (repeat (first | with_reducible exact HB.out | with_reducible exact Below.refl _ _ | with_reducible apply below_alloc | with_reducible apply pw_below_drewN | with_reducible apply below_drew1 | (with_reducible refine below_set ?_ ?hy; (case hy => omega)))))⟩
  · refine (blk_cell (g := w.heap.size + 1) (blk_drew (new_at _ _ _ (by simp))) 0).trans ?_
    exact (Array.getElem?_append_left (by simp)).trans rfl
  · refine (blk_cell (g := w.heap.size + 1) (blk_drew (new_at _ _ _ (by simp))) 1).trans ?_
    exact (Array.getElem?_append_left (by simp)).trans rfl
set_option maxHeartbeats 1600000 in
set_option maxRecDepth 100000 in
theorem is81.calls (a : Int) (w : World) (h0 : 0 ≤ a) (h1 : a ≤ 1099511627776) : Calls Tryz.prog 81 #[.int .i64 a] w fun e w' => e = .returned (.bool true) ∧ w' = w := by
  have c0 : decide (a ≥ 0) = true := decide_eq_true h0
  have c1 : decide (a ≤ 1099511627776) = true := decide_eq_true h1
  go_enter Tryz.func81, Tryz.ntmps81
  go_wp2
  go_ret
  exact ⟨rfl, rfl⟩
set_option maxHeartbeats 1600000 in
set_option maxRecDepth 100000 in
theorem lcheck0.calls (w : World) : Calls Tryz.prog 40 #[.slice none 0 0] w fun e w' => e = .returned (.bool true) ∧ Below w.heap.size w w' := by
  go_enter Tryz.func40, Tryz.ntmps40
  go_wp2
  go_loopw [7] (fun i wr => i = .int .i64 0 ∧ wr = w) (fun _ _ => 0)
  case atStart => exact ⟨rfl, rfl⟩
  case round =>
    obtain ⟨rfl, rfl⟩ := hrel
    go_wp2
    go_ret
    exact ⟨rfl, Below.refl _ _⟩
set_option maxHeartbeats 1600000 in
set_option maxRecDepth 100000 in
theorem lcheck1.calls (v : Value) (a : Int) (w : World) (hv : Mk1 w v a) (ha : 0 ≤ a) (hb : a ≤ 1099511627776) : Calls Tryz.prog 40 #[v] w fun e w' => e = .returned (.bool true) ∧ Below w.heap.size w w' := by
  obtain ⟨g, c, rfl, hc, h0, h1⟩ := hv
  have hg : g < w.heap.size := World.block_lt_of_cell? _ _ h0
  have D := Aside0.mk (fun W => is81.calls a W ha hb)
  go_enter Tryz.func40, Tryz.ntmps40
  go_wp2
  go_loopw [7] (fun i wr => ∃ j : Nat, j ≤ 1 ∧ i = .int .i64 j ∧ Aside0 (Below w.heap.size w wr)) (fun i _ => 1 - (intOf i).toNat)
  case atStart => exact ⟨0, by omega, rfl, ⟨Below.refl _ _⟩⟩
  case round =>
    obtain ⟨j, hj, rfl, HB⟩ := hrel
    rcases (by omega : j = 0 ∨ j = 1) with rfl | rfl
    · have k0 : wr.cell? ⟨g, 0, none⟩ = some (.int .i64 a) := (HB.out.cell hg).trans h0
      have k1 : wr.cell? ⟨g, 1, none⟩ = some (.int .i64 100000) := (HB.out.cell hg).trans h1
      have kl : g < wr.heap.size := World.block_lt_of_cell? _ _ k0
      clear h0 h1
      go_wp2_with fail
      repeat (go_quiet ((go_at_call 81; refine Calls.quiet_of_same (D.out _))); try go_wp2_with fail)
      go_roundw
      case rel => exact ⟨1, by omega, by simp, ⟨(by (repeat (first | with_reducible exact HB.out | with_reducible exact Below.refl _ _ | with_reducible apply below_alloc | with_reducible apply pw_below_drewN | with_reducible apply below_drew1 | (with_reducible refine below_set ?_ ?hy; (case hy => omega)))))⟩⟩
      case measure => simp [intOf]
    · go_wp2
      go_ret
      exact ⟨rfl, HB.out⟩
set_option maxHeartbeats 1600000 in
set_option maxRecDepth 100000 in
theorem index35.calls (v : Value) (a now : Int) (gs : Nat) (w : World) (hv : Mk1 w v a) (hs : w.cell? ⟨gs, 7, none⟩ = some (.int .i64 now)) (ha : a ≤ now) :
    Calls Tryz.prog 82 #[v, .func (.func 35) #[] #[.pointer (some ⟨gs, 0, none⟩)]] w fun e w' => e = .returned (.int .i64 (-1)) ∧ Below w.heap.size w w' := by
  obtain ⟨g, c, rfl, hc, h0, h1⟩ := hv
  have hg : g < w.heap.size := World.block_lt_of_cell? _ _ h0
  have hsl : gs < w.heap.size := World.block_lt_of_cell? _ _ hs
  have c0 : decide (a > now) = false := decide_eq_false (by omega)
  go_enter Tryz.func82, Tryz.ntmps82
  go_wp2
  go_loopw [8] (fun i wr => ∃ j : Nat, j ≤ 1 ∧ i = .int .i64 j ∧ Aside0 (Below w.heap.size w wr)) (fun i _ => 1 - (intOf i).toNat)
  case atStart => exact ⟨0, by omega, rfl, ⟨Below.refl _ _⟩⟩
  case round =>
    obtain ⟨j, hj, rfl, HB⟩ := hrel
    rcases (by omega : j = 0 ∨ j = 1) with rfl | rfl
    · have k0 : wr.cell? ⟨g, 0, none⟩ = some (.int .i64 a) := (HB.out.cell hg).trans h0
      have k1 : wr.cell? ⟨g, 1, none⟩ = some (.int .i64 100000) := (HB.out.cell hg).trans h1
      have kl : g < wr.heap.size := World.block_lt_of_cell? _ _ k0
      have s0 : wr.cell? ⟨gs, 7, none⟩ = some (.int .i64 now) := (HB.out.cell hsl).trans hs
      have sl : gs < wr.heap.size := World.block_lt_of_cell? _ _ s0
      clear hs
      clear h0 h1
      go_wp2
      go_roundw
      case rel => exact ⟨1, by omega, by simp, ⟨(by (repeat (first | with_reducible exact HB.out | with_reducible exact Below.refl _ _ | with_reducible apply below_alloc | with_reducible apply pw_below_drewN | with_reducible apply below_drew1 | (with_reducible refine below_set ?_ ?hy; (case hy => omega)))))⟩⟩
      case measure => simp [intOf]
    · go_wp2
      go_ret
      exact ⟨rfl, (by (repeat (first | with_reducible exact HB.out | with_reducible exact Below.refl _ _ | with_reducible apply below_alloc | with_reducible apply pw_below_drewN | with_reducible apply below_drew1 | (with_reducible refine below_set ?_ ?hy; (case hy => omega)))))⟩
set_option maxHeartbeats 1600000 in
set_option maxRecDepth 100000 in
theorem index138.calls (v : Value) (a : Int) (gs : Nat) (w : World) (hv : Mk1 w v a) (hs : w.cell? ⟨gs, 0, none⟩ = some (.int .i64 100000)) :
    Calls Tryz.prog 82 #[v, .func (.func 138) #[] #[.pointer (some ⟨gs, 0, none⟩)]] w fun e w' => e = .returned (.int .i64 (0)) ∧ Below w.heap.size w w' := by
  obtain ⟨g, c, rfl, hc, h0, h1⟩ := hv
  have hg : g < w.heap.size := World.block_lt_of_cell? _ _ h0
  have hsl : gs < w.heap.size := World.block_lt_of_cell? _ _ hs
  go_enter Tryz.func82, Tryz.ntmps82
  go_wp2
  go_loopw [8] (fun i wr => ∃ j : Nat, j ≤ 0 ∧ i = .int .i64 j ∧ Aside0 (Below w.heap.size w wr)) (fun i _ => 1 - (intOf i).toNat)
  case atStart => exact ⟨0, by omega, rfl, ⟨Below.refl _ _⟩⟩
  case round =>
    obtain ⟨j, hj, rfl, HB⟩ := hrel
    obtain rfl : j = 0 := by omega
    · have k0 : wr.cell? ⟨g, 0, none⟩ = some (.int .i64 a) := (HB.out.cell hg).trans h0
      have k1 : wr.cell? ⟨g, 1, none⟩ = some (.int .i64 100000) := (HB.out.cell hg).trans h1
      have kl : g < wr.heap.size := World.block_lt_of_cell? _ _ k0
      have s0 : wr.cell? ⟨gs, 0, none⟩ = some (.int .i64 100000) := (HB.out.cell hsl).trans hs
      have sl : gs < wr.heap.size := World.block_lt_of_cell? _ _ s0
      clear hs
      clear h0 h1
      go_wp2
      go_ret
      exact ⟨rfl, (by (repeat (first | with_reducible exact HB.out | with_reducible exact Below.refl _ _ | with_reducible apply below_alloc | with_reducible apply pw_below_drewN | with_reducible apply below_drew1 | (with_reducible refine below_set ?_ ?hy; (case hy => omega)))))⟩
set_option maxHeartbeats 1600000 in
set_option maxRecDepth 100000 in
theorem index139.calls (v : Value) (a : Int) (g6 g5 : Nat) (w : World) (hv : Mk1 w v a) (hs : w.cell? ⟨g6, 0, none⟩ = some (.int .i64 a)) (ht : w.cell? ⟨g5, 0, none⟩ = some (.int .i64 10000000)) (ha : 0 ≤ a) (hb : a ≤ 1099511627776) :
    Calls Tryz.prog 82 #[v, .func (.func 139) #[] #[.pointer (some ⟨g6, 0, none⟩), .pointer (some ⟨g5, 0, none⟩)]] w fun e w' => e = .returned (.int .i64 (0)) ∧ Below w.heap.size w w' := by
  obtain ⟨g, c, rfl, hc, h0, h1⟩ := hv
  have hg : g < w.heap.size := World.block_lt_of_cell? _ _ h0
  have hsl : g6 < w.heap.size := World.block_lt_of_cell? _ _ hs
  have htl : g5 < w.heap.size := World.block_lt_of_cell? _ _ ht
  have e1 : wrap64 (a - 10000000) = a - 10000000 := wrap64_id _ (by omega) (by omega)
  have c0 : decide (a ≥ a - 10000000) = true := decide_eq_true (by omega)
  go_enter Tryz.func82, Tryz.ntmps82
  go_wp2
  go_loopw [8] (fun i wr => ∃ j : Nat, j ≤ 0 ∧ i = .int .i64 j ∧ Aside0 (Below w.heap.size w wr)) (fun i _ => 1 - (intOf i).toNat)
  case atStart => exact ⟨0, by omega, rfl, ⟨Below.refl _ _⟩⟩
  case round =>
    obtain ⟨j, hj, rfl, HB⟩ := hrel
    obtain rfl : j = 0 := by omega
    · have k0 : wr.cell? ⟨g, 0, none⟩ = some (.int .i64 a) := (HB.out.cell hg).trans h0
      have k1 : wr.cell? ⟨g, 1, none⟩ = some (.int .i64 100000) := (HB.out.cell hg).trans h1
      have kl : g < wr.heap.size := World.block_lt_of_cell? _ _ k0
      have s0 : wr.cell? ⟨g6, 0, none⟩ = some (.int .i64 a) := (HB.out.cell hsl).trans hs
      have sl : g6 < wr.heap.size := World.block_lt_of_cell? _ _ s0
      have t0 : wr.cell? ⟨g5, 0, none⟩ = some (.int .i64 10000000) := (HB.out.cell htl).trans ht
      have tl : g5 < wr.heap.size := World.block_lt_of_cell? _ _ t0
      clear hs ht
      clear h0 h1
      go_wp2
      go_ret
      exact ⟨rfl, (by (repeat (first | with_reducible exact HB.out | with_reducible exact Below.refl _ _ | with_reducible apply below_alloc | with_reducible apply pw_below_drewN | with_reducible apply below_drew1 | (with_reducible refine below_set ?_ ?hy; (case hy => omega)))))⟩
set_option maxHeartbeats 1600000 in
set_option maxRecDepth 100000 in
theorem index0.calls (cl : Nat) (cap : Array Value) (w : World) : Calls Tryz.prog 82 #[.slice none 0 0, .func (.func cl) #[] cap] w fun e w' => e = .returned (.int .i64 (-1)) ∧ Below w.heap.size w w' := by
  go_enter Tryz.func82, Tryz.ntmps82
  go_wp2
  go_loopw [8] (fun i wr => i = .int .i64 0 ∧ wr = w) (fun _ _ => 0)
  case atStart => exact ⟨rfl, rfl⟩
  case round =>
    obtain ⟨rfl, rfl⟩ := hrel
    go_wp2
    go_ret
    exact ⟨rfl, Below.refl _ _⟩
set_option maxHeartbeats 1600000 in
set_option maxRecDepth 100000 in
theorem contains0.calls (gs : Nat) (w : World) : Calls Tryz.prog 41 #[.slice none 0 0, .func (.func 35) #[] #[.pointer (some ⟨gs, 0, none⟩)]] w fun e w' => e = .returned (.bool false) ∧ Below w.heap.size w w' := by
  have D := Aside0.mk (fun W => index0.calls 35 #[.pointer (some ⟨gs, 0, none⟩)] W)
  go_enter Tryz.func41, Tryz.ntmps41
  go_wp2_with fail
  refine (D.out _).mono ?_
  rintro ev w1 ⟨rfl, hb1⟩
  go_wp2
  go_ret
  exact ⟨by simp, hb1⟩
set_option maxHeartbeats 1600000 in
set_option maxRecDepth 100000 in
theorem contains1.calls (v : Value) (a now : Int) (gs : Nat) (w : World) (hv : Mk1 w v a) (hs : w.cell? ⟨gs, 7, none⟩ = some (.int .i64 now)) (ha : a ≤ now) : Calls Tryz.prog 41 #[v, .func (.func 35) #[] #[.pointer (some ⟨gs, 0, none⟩)]] w fun e w' => e = .returned (.bool false) ∧ Below w.heap.size w w' := by
  have D := Aside0.mk (index35.calls v a now gs w hv hs ha)
  clear hv hs ha
  go_enter Tryz.func41, Tryz.ntmps41
  go_wp2_with fail
  refine D.out.mono ?_
  rintro ev w1 ⟨rfl, hb1⟩
  go_wp2
  go_ret
  exact ⟨by simp, hb1⟩
set_option maxHeartbeats 1600000 in
set_option maxRecDepth 100000 in
theorem own0.calls (p : Option Addr) (w : World) : Calls Tryz.prog 137 #[.slice p 0 0] w fun e w' => e = .returned (.slice (some ⟨w.heap.size, 0, none⟩) 0 0) ∧ w' = w.alloc (.cells #[] 82) := by
  have hmk : ∀ W : World, (Instr.makeSlice 29 (.int .i64 0) (.int .i64 0)).run Tryz.prog W = .ok (.slice (some ⟨W.heap.size, 0, none⟩) 0 0) (W.alloc (.cells #[] 82)) := by
    obtain ⟨i0, hi, hz0, hz1, hz2⟩ := info_parts infoM
    intro W
    have h := run_make (P := Tryz.prog) W 29 82 i0 _ Tryz.underlying29 hi hz0 .i64 .i64 0 0 (by omega) (by omega) (by omega) (by omega)
    rw [show ((0 : Int).toNat * i0.size) = 0 by simp, show madeCells (Value.agg #[Value.int .i64 0, Value.int .i64 0]).cells 0 = #[] by kernel_rfl] at h
    exact h
  have hcp : ∀ W : World, ∀ d : Option Addr, (Builtin.copy_ #[29, 29] 3 #[.slice d 0 0, .slice p 0 0]).run Tryz.prog W = .ok (.int .i64 0) W := fun W d => run_copy_0 W 29 29 3 82 d p 0 0 Tryz.underlying29 (by kernel_rfl)
  go_enter Tryz.func137, Tryz.ntmps137
  go_wp2
  go_ret
  exact ⟨rfl, rfl⟩

end Go.Proofs.YtpkjdjhojbadhaaGreatDoor.Hp

set_option linter.unusedVariables false
set_option linter.unusedSimpArgs false
namespace Go.Proofs.YtpkjdjhojbadhaaGreatDoor.Hp
open Go.RowKit Go.Proofs.YtpkjdjhojbadhaaGreatDoorW.PrintWords Go.Proofs.YtpkjdjhojbadhaaGreatDoorW.PrintLast Go.Proofs.YtpkjdjhojbadhaaGreatDoorW.PrintMore
attribute [local go_sem] max2_int min2_int max_two min_two max_three min_three max_four min_four
theorem infoM2 : ∃ i, Tryz.prog.info? 82 = some i ∧ True := by
  obtain ⟨i0, hi, _⟩ := info_parts (show (Tryz.prog.info? 82).map (fun i => (i.zero, i.size, i.bytes)) = some (some (.agg #[.int .i64 0, .int .i64 0]), 2, 16) by kernel_rfl)
  exact ⟨i0, hi, trivial⟩
theorem capge (x : Nat) : 1 ≤ (Question.appendCap 1 0 82).cut x := by simp [Question.cut]
theorem cut_hm {P : Program} (t e : TypeId) {i : TypeInfo} (ht : P.underlying t = some (.slice e)) (hi : P.info? e = some i) (A : Option Addr) (n c : Nat) (j : Nat) (hm : j ≤ c) :
    ∀ W : World, (Instr.slice t (.slice A n c) none (some (.int .i64 (j : Int))) (some (.int .i64 (j : Int)))).run P W = .ok (.slice A j j) W := by
  intro W
  have hel : P.elem t = e := by simp [Program.elem, ht]
  have hu : P.underlying t = some (.slice (P.elem t)) := by rw [hel]; exact ht
  have ha : (A.map fun x => x.add 0) = A := by cases A <;> simp [Addr.add]
  rw [run_slice_hm W t A n c hu .i64 .i64 j j (by omega) (by omega) (by omega), hel]
  simp [sizeOf, typeInfo, hi, sliced, Result.andThen, ha]
set_option maxHeartbeats 1600000 in
set_option maxRecDepth 100000 in
theorem put0.calls (a : Int) (w : World) (h0 : 0 ≤ a) (h2 : a ≤ 1099511627776) :
    Calls Tryz.prog 109 #[.slice none 0 0, .int .i64 10000000, .int .i64 a, .int .i64 100000] w fun e w' => ∃ v', e = .returned (.tuple #[v', .int .i64 0]) ∧ Mk1 w' v' a ∧ Below w.heap.size w w' := by
  have hmf : ∀ (fn : Fn) (first cap : Array Value) (w : World), (Instr.makeFunc fn first cap).run Tryz.prog w = .ok (.func fn first cap) w := fun _ _ _ _ => rfl
  have C := Aside0.mk (fun W (_ : Below w.heap.size w W) => lcheck0.calls W)
  have hsl : ∀ W : World, (Instr.slice 29 (.slice none 0 0) none (some (.int .i64 0)) (some (.int .i64 0))).run Tryz.prog W = .ok (.slice none 0 0) W := fun W => by kernel_rfl
  have I := Aside0.mk (fun W => is81.calls a W (by omega) h2)
  go_enter Tryz.func109, Tryz.ntmps109
  go_wp2_with fail
  refine (C.out _ (by (repeat (first | with_reducible exact HB.out | with_reducible exact Below.refl _ _ | with_reducible apply below_alloc | with_reducible apply pw_below_drewN | with_reducible apply below_drew1 | (with_reducible refine below_set ?_ ?hy; (case hy => omega)))))).mono ?_
  rintro ev w1 ⟨rfl, hb1⟩
  have n0_ := Aside0.mk (blk_below (g := w.heap.size) (o := .cells #[.int .i64 10000000] 3 (0, 0)) (by (repeat (first | (with_reducible refine new_at _ _ _ ?hn; (case hn => first | rfl | (simp; done))) | with_reducible refine blk_alloc ?_ _ | with_reducible refine blk_drewN ?_ _ | with_reducible refine blk_drew ?_ | (with_reducible refine blk_far ?_ ?hb _; (case hb => first | omega | (simp; done) | (simp; omega)))))) hb1)
  have n1_ := Aside0.mk (blk_below (g := w.heap.size + 1) (o := .cells #[.int .i64 a] 3 (0, 0)) (by (repeat (first | (with_reducible refine new_at _ _ _ ?hn; (case hn => first | rfl | (simp; done))) | with_reducible refine blk_alloc ?_ _ | with_reducible refine blk_drewN ?_ _ | with_reducible refine blk_drew ?_ | (with_reducible refine blk_far ?_ ?hb _; (case hb => first | omega | (simp; done) | (simp; omega)))))) hb1)
  have n2_ := Aside0.mk (blk_below (g := w.heap.size + 1 + 1) (o := .cells #[.int .i64 100000] 3 (0, 0)) (by (repeat (first | (with_reducible refine new_at _ _ _ ?hn; (case hn => first | rfl | (simp; done))) | with_reducible refine blk_alloc ?_ _ | with_reducible refine blk_drewN ?_ _ | with_reducible refine blk_drew ?_ | (with_reducible refine blk_far ?_ ?hb _; (case hb => first | omega | (simp; done) | (simp; omega)))))) hb1)
  have nb_ : Aside0 (Below w.heap.size w w1) := ⟨below_step (by (repeat (first | with_reducible exact HB.out | with_reducible exact Below.refl _ _ | with_reducible apply below_alloc | with_reducible apply pw_below_drewN | with_reducible apply below_drew1 | (with_reducible refine below_set ?_ ?hy; (case hy => omega))))) hb1⟩
  clear hb1
  have B5 := n0_
  have B5c0 : w1.cell? ⟨w.heap.size, 0, none⟩ = some (.int .i64 10000000) := (blk_cell B5.out 0).trans rfl
  have B5f0 : w1.frozen? ⟨w.heap.size, 0, none⟩ = false := blk_frozen B5.out 0
  have B5l := blk_lt B5.out
  have B6 := n1_
  have B6c0 : w1.cell? ⟨w.heap.size + 1, 0, none⟩ = some (.int .i64 a) := (blk_cell B6.out 0).trans rfl
  have B6f0 : w1.frozen? ⟨w.heap.size + 1, 0, none⟩ = false := blk_frozen B6.out 0
  have B6l := blk_lt B6.out
  have B7 := n2_
  have B7c0 : w1.cell? ⟨w.heap.size + 1 + 1, 0, none⟩ = some (.int .i64 100000) := (blk_cell B7.out 0).trans rfl
  have B7f0 : w1.frozen? ⟨w.heap.size + 1 + 1, 0, none⟩ = false := blk_frozen B7.out 0
  have B7l := blk_lt B7.out
  have HB := nb_
  have HBs : w.heap.size ≤ w1.heap.size := HB.out.size
  clear nb_ n0_ n1_ n2_
  go_wp2_with (first | (go_at_call 81; refine (I.out _).mono ?_; rintro ev w2 ⟨rfl, rfl⟩) | fail)
  repeat (go_quiet (fail); try go_wp2_with fail)
  refine (index0.calls 138 _ _).mono ?_
  rintro ev w3 ⟨rfl, hb3⟩
  have n0_ := Aside0.mk (blk_below (g := w.heap.size) (o := .cells #[.int .i64 10000000] 3 (0, 0)) (by (repeat (first | with_reducible exact B5.out | (with_reducible refine new_at _ _ _ ?hn; (case hn => first | rfl | (simp; done))) | with_reducible refine blk_alloc ?_ _ | with_reducible refine blk_drewN ?_ _ | with_reducible refine blk_drew ?_ | (with_reducible refine blk_far ?_ ?hb _; (case hb => first | omega | (simp; done) | (simp; omega)))))) hb3)
  have n1_ := Aside0.mk (blk_below (g := w.heap.size + 1) (o := .cells #[.int .i64 a] 3 (0, 0)) (by (repeat (first | with_reducible exact B6.out | (with_reducible refine new_at _ _ _ ?hn; (case hn => first | rfl | (simp; done))) | with_reducible refine blk_alloc ?_ _ | with_reducible refine blk_drewN ?_ _ | with_reducible refine blk_drew ?_ | (with_reducible refine blk_far ?_ ?hb _; (case hb => first | omega | (simp; done) | (simp; omega)))))) hb3)
  have n2_ := Aside0.mk (blk_below (g := w.heap.size + 1 + 1) (o := .cells #[.int .i64 100000] 3 (0, 0)) (by (repeat (first | with_reducible exact B7.out | (with_reducible refine new_at _ _ _ ?hn; (case hn => first | rfl | (simp; done))) | with_reducible refine blk_alloc ?_ _ | with_reducible refine blk_drewN ?_ _ | with_reducible refine blk_drew ?_ | (with_reducible refine blk_far ?_ ?hb _; (case hb => first | omega | (simp; done) | (simp; omega)))))) hb3)
  have nb_ : Aside0 (Below w.heap.size w w3) := ⟨below_step (by (repeat (first | with_reducible exact HB.out | with_reducible exact Below.refl _ _ | with_reducible apply below_alloc | with_reducible apply pw_below_drewN | with_reducible apply below_drew1 | (with_reducible refine below_set ?_ ?hy; (case hy => omega))))) hb3⟩
  clear B5c0 B5f0 B5l B5 B6c0 B6f0 B6l B6 B7c0 B7f0 B7l B7 HB HBs
  clear hb3
  have B5 := n0_
  have B5c0 : w3.cell? ⟨w.heap.size, 0, none⟩ = some (.int .i64 10000000) := (blk_cell B5.out 0).trans rfl
  have B5f0 : w3.frozen? ⟨w.heap.size, 0, none⟩ = false := blk_frozen B5.out 0
  have B5l := blk_lt B5.out
  have B6 := n1_
  have B6c0 : w3.cell? ⟨w.heap.size + 1, 0, none⟩ = some (.int .i64 a) := (blk_cell B6.out 0).trans rfl
  have B6f0 : w3.frozen? ⟨w.heap.size + 1, 0, none⟩ = false := blk_frozen B6.out 0
  have B6l := blk_lt B6.out
  have B7 := n2_
  have B7c0 : w3.cell? ⟨w.heap.size + 1 + 1, 0, none⟩ = some (.int .i64 100000) := (blk_cell B7.out 0).trans rfl
  have B7f0 : w3.frozen? ⟨w.heap.size + 1 + 1, 0, none⟩ = false := blk_frozen B7.out 0
  have B7l := blk_lt B7.out
  have HB := nb_
  have HBs : w.heap.size ≤ w3.heap.size := HB.out.size
  clear nb_ n0_ n1_ n2_
  go_wp2_with fail
  go_cut [11] (fun v wx => Aside0 (Mk1 wx v a) ∧ Aside0 (wx.heap[w.heap.size]? = some (.cells #[.int .i64 10000000] 3 (0, 0))) ∧ Aside0 (wx.heap[w.heap.size + 1]? = some (.cells #[.int .i64 a] 3 (0, 0))) ∧ Aside0 (Below w.heap.size w wx))
  case first =>
    go_region_with (first | (go_at_call 137; refine (own0.calls none _).mono ?_; rintro ev w4 ⟨rfl, rfl⟩))
    all_goals go_wp2_with fail
    all_goals go_meet
    all_goals exact ⟨⟨⟨_, _, rfl, capge _, (blk_cell (by (repeat (first | (with_reducible refine new_at _ _ _ ?hn; (case hn => first | rfl | (simp; done))) | with_reducible refine blk_alloc ?_ _ | with_reducible refine blk_drewN ?_ _ | with_reducible refine blk_drew ?_ | (with_reducible refine blk_far ?_ ?hb _; (case hb => first | omega | (simp; done) | (simp; omega)))))) 0).trans ((Array.getElem?_append_left (by simp)).trans rfl), (blk_cell (by (repeat (first | (with_reducible refine new_at _ _ _ ?hn; (case hn => first | rfl | (simp; done))) | with_reducible refine blk_alloc ?_ _ | with_reducible refine blk_drewN ?_ _ | with_reducible refine blk_drew ?_ | (with_reducible refine blk_far ?_ ?hb _; (case hb => first | omega | (simp; done) | (simp; omega)))))) 1).trans ((Array.getElem?_append_left (by simp)).trans rfl)⟩⟩, ⟨(by (repeat (first | with_reducible exact B5.out | (with_reducible refine new_at _ _ _ ?hn; (case hn => first | rfl | (simp; done))) | with_reducible refine blk_alloc ?_ _ | with_reducible refine blk_drewN ?_ _ | with_reducible refine blk_drew ?_ | (with_reducible refine blk_far ?_ ?hb _; (case hb => first | omega | (simp; done) | (simp; omega))))))⟩, ⟨(by (repeat (first | with_reducible exact B6.out | (with_reducible refine new_at _ _ _ ?hn; (case hn => first | rfl | (simp; done))) | with_reducible refine blk_alloc ?_ _ | with_reducible refine blk_drewN ?_ _ | with_reducible refine blk_drew ?_ | (with_reducible refine blk_far ?_ ?hb _; (case hb => first | omega | (simp; done) | (simp; omega))))))⟩, ⟨(by (repeat (first | with_reducible exact HB.out | with_reducible exact Below.refl _ _ | with_reducible apply below_alloc | with_reducible apply pw_below_drewN | with_reducible apply below_drew1 | (with_reducible refine below_set ?_ ?hy; (case hy => omega)))))⟩⟩
  case rest =>
    obtain ⟨HM, B5, B6, HB⟩ := hcut
    have B5c0 : wc.cell? ⟨w.heap.size, 0, none⟩ = some (.int .i64 10000000) := (blk_cell B5.out 0).trans rfl
    have B5f0 : wc.frozen? ⟨w.heap.size, 0, none⟩ = false := blk_frozen B5.out 0
    have B5l := blk_lt B5.out
    have B6c0 : wc.cell? ⟨w.heap.size + 1, 0, none⟩ = some (.int .i64 a) := (blk_cell B6.out 0).trans rfl
    have B6f0 : wc.frozen? ⟨w.heap.size + 1, 0, none⟩ = false := blk_frozen B6.out 0
    have B6l := blk_lt B6.out
    have hb9 := (show Below w.heap.size w wc from HB.out).size
    obtain ⟨g2, cc, e2, hcc, m0, m1⟩ := HM.out
    subst e2
    have ml := World.block_lt_of_cell? _ _ m0
    go_wp2_with fail
    refine (index139.calls (.slice (some ⟨g2, 0, none⟩) 1 cc) a (w.heap.size + 1) w.heap.size _ HM.out B6c0 B5c0 (by omega) h2).mono ?_
    rintro ev w5 ⟨rfl, hb5⟩
    have HM5 := Aside0.mk (HM.out.below hb5)
    go_wp2
    go_ret2
    exact ⟨_, rfl, HM5.out, below_step HB.out hb5⟩
set_option maxHeartbeats 1600000 in
set_option maxRecDepth 100000 in
theorem put1.calls (v : Value) (a0 a : Int) (w : World) (hv : Mk1 w v a0) (h0 : 0 ≤ a0) (h1 : a0 ≤ a) (h2 : a ≤ 1099511627776) :
    Calls Tryz.prog 109 #[v, .int .i64 10000000, .int .i64 a, .int .i64 100000] w fun e w' => ∃ v', e = .returned (.tuple #[v', .int .i64 0]) ∧ Mk1 w' v' a ∧ Below w.heap.size w w' := by
  have hmf : ∀ (fn : Fn) (first cap : Array Value) (w : World), (Instr.makeFunc fn first cap).run Tryz.prog w = .ok (.func fn first cap) w := fun _ _ _ _ => rfl
  obtain ⟨g, c, hve, hc, hc0, hc1⟩ := id hv
  subst hve
  have HV := Aside0.mk hv
  have hg : g < w.heap.size := World.block_lt_of_cell? _ _ hc0
  have C := Aside0.mk (fun W hW => lcheck1.calls (.slice (some ⟨g, 0, none⟩) 1 c) a0 W (hv.below hW) h0 (by omega))
  have c2 : decide (a < a0) = false := decide_eq_false (by omega)
  clear hv hc
  have hsl := cut_hm (P := Tryz.prog) 29 82 Tryz.underlying29 (Classical.choose_spec infoM2).1 (some ⟨g, 0, none⟩) 1 c 0 (by omega)
  have I := Aside0.mk (fun W => is81.calls a W (by omega) h2)
  go_enter Tryz.func109, Tryz.ntmps109
  go_wp2_with fail
  refine (C.out _ (by (repeat (first | with_reducible exact HB.out | with_reducible exact Below.refl _ _ | with_reducible apply below_alloc | with_reducible apply pw_below_drewN | with_reducible apply below_drew1 | (with_reducible refine below_set ?_ ?hy; (case hy => omega)))))).mono ?_
  rintro ev w1 ⟨rfl, hb1⟩
  have n0_ := Aside0.mk (blk_below (g := w.heap.size) (o := .cells #[.int .i64 10000000] 3 (0, 0)) (by (repeat (first | (with_reducible refine new_at _ _ _ ?hn; (case hn => first | rfl | (simp; done))) | with_reducible refine blk_alloc ?_ _ | with_reducible refine blk_drewN ?_ _ | with_reducible refine blk_drew ?_ | (with_reducible refine blk_far ?_ ?hb _; (case hb => first | omega | (simp; done) | (simp; omega)))))) hb1)
  have n1_ := Aside0.mk (blk_below (g := w.heap.size + 1) (o := .cells #[.int .i64 a] 3 (0, 0)) (by (repeat (first | (with_reducible refine new_at _ _ _ ?hn; (case hn => first | rfl | (simp; done))) | with_reducible refine blk_alloc ?_ _ | with_reducible refine blk_drewN ?_ _ | with_reducible refine blk_drew ?_ | (with_reducible refine blk_far ?_ ?hb _; (case hb => first | omega | (simp; done) | (simp; omega)))))) hb1)
  have n2_ := Aside0.mk (blk_below (g := w.heap.size + 1 + 1) (o := .cells #[.int .i64 100000] 3 (0, 0)) (by (repeat (first | (with_reducible refine new_at _ _ _ ?hn; (case hn => first | rfl | (simp; done))) | with_reducible refine blk_alloc ?_ _ | with_reducible refine blk_drewN ?_ _ | with_reducible refine blk_drew ?_ | (with_reducible refine blk_far ?_ ?hb _; (case hb => first | omega | (simp; done) | (simp; omega)))))) hb1)
  have nb_ : Aside0 (Below w.heap.size w w1) := ⟨below_step (by (repeat (first | with_reducible exact HB.out | with_reducible exact Below.refl _ _ | with_reducible apply below_alloc | with_reducible apply pw_below_drewN | with_reducible apply below_drew1 | (with_reducible refine below_set ?_ ?hy; (case hy => omega))))) hb1⟩
  clear hb1
  have B5 := n0_
  have B5c0 : w1.cell? ⟨w.heap.size, 0, none⟩ = some (.int .i64 10000000) := (blk_cell B5.out 0).trans rfl
  have B5f0 : w1.frozen? ⟨w.heap.size, 0, none⟩ = false := blk_frozen B5.out 0
  have B5l := blk_lt B5.out
  have B6 := n1_
  have B6c0 : w1.cell? ⟨w.heap.size + 1, 0, none⟩ = some (.int .i64 a) := (blk_cell B6.out 0).trans rfl
  have B6f0 : w1.frozen? ⟨w.heap.size + 1, 0, none⟩ = false := blk_frozen B6.out 0
  have B6l := blk_lt B6.out
  have B7 := n2_
  have B7c0 : w1.cell? ⟨w.heap.size + 1 + 1, 0, none⟩ = some (.int .i64 100000) := (blk_cell B7.out 0).trans rfl
  have B7f0 : w1.frozen? ⟨w.heap.size + 1 + 1, 0, none⟩ = false := blk_frozen B7.out 0
  have B7l := blk_lt B7.out
  have HB := nb_
  have HBs : w.heap.size ≤ w1.heap.size := HB.out.size
  clear nb_ n0_ n1_ n2_
  have k0 : w1.cell? ⟨g, 0, none⟩ = some (.int .i64 a0) := (HB.out.cell hg).trans hc0
  have k1 : w1.cell? ⟨g, 1, none⟩ = some (.int .i64 100000) := (HB.out.cell hg).trans hc1
  have kl := World.block_lt_of_cell? _ _ k0
  clear hc0 hc1
  go_wp2_with (first | (go_at_call 81; refine (I.out _).mono ?_; rintro ev w2 ⟨rfl, rfl⟩) | fail)
  repeat (go_quiet (fail); try go_wp2_with fail)
  refine (index138.calls (.slice (some ⟨g, 0, none⟩) 1 c) a0 (w.heap.size + 1 + 1) _ (HV.out.below (by (repeat (first | with_reducible exact HB.out | with_reducible exact Below.refl _ _ | with_reducible apply below_alloc | with_reducible apply pw_below_drewN | with_reducible apply below_drew1 | (with_reducible refine below_set ?_ ?hy; (case hy => omega)))))) (by simpa using B7c0)).mono ?_
  rintro ev w3 ⟨rfl, hb3⟩
  have n0_ := Aside0.mk (blk_below (g := w.heap.size) (o := .cells #[.int .i64 10000000] 3 (0, 0)) (by (repeat (first | with_reducible exact B5.out | (with_reducible refine new_at _ _ _ ?hn; (case hn => first | rfl | (simp; done))) | with_reducible refine blk_alloc ?_ _ | with_reducible refine blk_drewN ?_ _ | with_reducible refine blk_drew ?_ | (with_reducible refine blk_far ?_ ?hb _; (case hb => first | omega | (simp; done) | (simp; omega)))))) hb3)
  have n1_ := Aside0.mk (blk_below (g := w.heap.size + 1) (o := .cells #[.int .i64 a] 3 (0, 0)) (by (repeat (first | with_reducible exact B6.out | (with_reducible refine new_at _ _ _ ?hn; (case hn => first | rfl | (simp; done))) | with_reducible refine blk_alloc ?_ _ | with_reducible refine blk_drewN ?_ _ | with_reducible refine blk_drew ?_ | (with_reducible refine blk_far ?_ ?hb _; (case hb => first | omega | (simp; done) | (simp; omega)))))) hb3)
  have n2_ := Aside0.mk (blk_below (g := w.heap.size + 1 + 1) (o := .cells #[.int .i64 100000] 3 (0, 0)) (by (repeat (first | with_reducible exact B7.out | (with_reducible refine new_at _ _ _ ?hn; (case hn => first | rfl | (simp; done))) | with_reducible refine blk_alloc ?_ _ | with_reducible refine blk_drewN ?_ _ | with_reducible refine blk_drew ?_ | (with_reducible refine blk_far ?_ ?hb _; (case hb => first | omega | (simp; done) | (simp; omega)))))) hb3)
  have nb_ : Aside0 (Below w.heap.size w w3) := ⟨below_step (by (repeat (first | with_reducible exact HB.out | with_reducible exact Below.refl _ _ | with_reducible apply below_alloc | with_reducible apply pw_below_drewN | with_reducible apply below_drew1 | (with_reducible refine below_set ?_ ?hy; (case hy => omega))))) hb3⟩
  clear B5c0 B5f0 B5l B5 B6c0 B6f0 B6l B6 B7c0 B7f0 B7l B7 HB HBs
  clear hb3
  have B5 := n0_
  have B5c0 : w3.cell? ⟨w.heap.size, 0, none⟩ = some (.int .i64 10000000) := (blk_cell B5.out 0).trans rfl
  have B5f0 : w3.frozen? ⟨w.heap.size, 0, none⟩ = false := blk_frozen B5.out 0
  have B5l := blk_lt B5.out
  have B6 := n1_
  have B6c0 : w3.cell? ⟨w.heap.size + 1, 0, none⟩ = some (.int .i64 a) := (blk_cell B6.out 0).trans rfl
  have B6f0 : w3.frozen? ⟨w.heap.size + 1, 0, none⟩ = false := blk_frozen B6.out 0
  have B6l := blk_lt B6.out
  have B7 := n2_
  have B7c0 : w3.cell? ⟨w.heap.size + 1 + 1, 0, none⟩ = some (.int .i64 100000) := (blk_cell B7.out 0).trans rfl
  have B7f0 : w3.frozen? ⟨w.heap.size + 1 + 1, 0, none⟩ = false := blk_frozen B7.out 0
  have B7l := blk_lt B7.out
  have HB := nb_
  have HBs : w.heap.size ≤ w3.heap.size := HB.out.size
  clear nb_ n0_ n1_ n2_
  go_wp2_with fail
  go_cut [11] (fun v wx => Aside0 (Mk1 wx v a) ∧ Aside0 (wx.heap[w.heap.size]? = some (.cells #[.int .i64 10000000] 3 (0, 0))) ∧ Aside0 (wx.heap[w.heap.size + 1]? = some (.cells #[.int .i64 a] 3 (0, 0))) ∧ Aside0 (Below w.heap.size w wx))
  case first =>
    go_region_with (first | (go_at_call 137; refine (own0.calls (some ⟨g, 0, none⟩) _).mono ?_; rintro ev w4 ⟨rfl, rfl⟩))
    all_goals go_wp2_with fail
    all_goals go_meet
    all_goals exact ⟨⟨⟨_, _, rfl, capge _, (blk_cell (by (repeat (first | (with_reducible refine new_at _ _ _ ?hn; (case hn => first | rfl | (simp; done))) | with_reducible refine blk_alloc ?_ _ | with_reducible refine blk_drewN ?_ _ | with_reducible refine blk_drew ?_ | (with_reducible refine blk_far ?_ ?hb _; (case hb => first | omega | (simp; done) | (simp; omega)))))) 0).trans ((Array.getElem?_append_left (by simp)).trans rfl), (blk_cell (by (repeat (first | (with_reducible refine new_at _ _ _ ?hn; (case hn => first | rfl | (simp; done))) | with_reducible refine blk_alloc ?_ _ | with_reducible refine blk_drewN ?_ _ | with_reducible refine blk_drew ?_ | (with_reducible refine blk_far ?_ ?hb _; (case hb => first | omega | (simp; done) | (simp; omega)))))) 1).trans ((Array.getElem?_append_left (by simp)).trans rfl)⟩⟩, ⟨(by (repeat (first | with_reducible exact B5.out | (with_reducible refine new_at _ _ _ ?hn; (case hn => first | rfl | (simp; done))) | with_reducible refine blk_alloc ?_ _ | with_reducible refine blk_drewN ?_ _ | with_reducible refine blk_drew ?_ | (with_reducible refine blk_far ?_ ?hb _; (case hb => first | omega | (simp; done) | (simp; omega))))))⟩, ⟨(by (repeat (first | with_reducible exact B6.out | (with_reducible refine new_at _ _ _ ?hn; (case hn => first | rfl | (simp; done))) | with_reducible refine blk_alloc ?_ _ | with_reducible refine blk_drewN ?_ _ | with_reducible refine blk_drew ?_ | (with_reducible refine blk_far ?_ ?hb _; (case hb => first | omega | (simp; done) | (simp; omega))))))⟩, ⟨(by (repeat (first | with_reducible exact HB.out | with_reducible exact Below.refl _ _ | with_reducible apply below_alloc | with_reducible apply pw_below_drewN | with_reducible apply below_drew1 | (with_reducible refine below_set ?_ ?hy; (case hy => omega)))))⟩⟩
  case rest =>
    obtain ⟨HM, B5, B6, HB⟩ := hcut
    have B5c0 : wc.cell? ⟨w.heap.size, 0, none⟩ = some (.int .i64 10000000) := (blk_cell B5.out 0).trans rfl
    have B5f0 : wc.frozen? ⟨w.heap.size, 0, none⟩ = false := blk_frozen B5.out 0
    have B5l := blk_lt B5.out
    have B6c0 : wc.cell? ⟨w.heap.size + 1, 0, none⟩ = some (.int .i64 a) := (blk_cell B6.out 0).trans rfl
    have B6f0 : wc.frozen? ⟨w.heap.size + 1, 0, none⟩ = false := blk_frozen B6.out 0
    have B6l := blk_lt B6.out
    have hb9 := (show Below w.heap.size w wc from HB.out).size
    obtain ⟨g2, cc, e2, hcc, m0, m1⟩ := HM.out
    subst e2
    have ml := World.block_lt_of_cell? _ _ m0
    go_wp2_with fail
    refine (index139.calls (.slice (some ⟨g2, 0, none⟩) 1 cc) a (w.heap.size + 1) w.heap.size _ HM.out B6c0 B5c0 (by omega) h2).mono ?_
    rintro ev w5 ⟨rfl, hb5⟩
    have HM5 := Aside0.mk (HM.out.below hb5)
    go_wp2
    go_ret2
    exact ⟨_, rfl, HM5.out, below_step HB.out hb5⟩

end Go.Proofs.YtpkjdjhojbadhaaGreatDoor.Hp
